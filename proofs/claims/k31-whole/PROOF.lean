import PyProof.Rows.All
import Wide.All
import OpenK.AllK
import Wide.FinOn
import HandS.ForMost
import HandS.Walk
import HandS.Deep
import HandS.Star
import HandS.Style
import HandS.Conv
import HandS.Zip
import HandS.Flow
import HandS.SortRule
import HandS.TupLe
import KE.KDictKeyed
import KE.KDictWalk
import KE.KDictDisplayH
import HandS.DictComp
import KE.GoesMore
import KE.DataMinMax
import KE.SortData
import PySem.Challenge.RW_tidewaits_k31_whole_rules_are_never_bett
set_option Elab.async false
set_option linter.all false
set_option maxRecDepth 100000
/-! DL, part A: heaps by data. A value reads as data (Rp); a pair of heaps G below H: G what never changes, H all; slots by data or owned lists and dicts. -/
namespace DL
open PySem PySem.Spec L2
open PyProof.Rows hiding St

/-- what is fixed through the whole run -/
structure Tx where
  P : Program
  w : World
  K : PySem.W.Frag
  mg : Str → Option Value
  base : Heap

abbrev KA := List (NestedKey × Addr × V)
abbrev KaRel (p : NestedKey × Addr × V) (q : NestedKey × Addr × Value) : Prop := p.1 = q.1 ∧ p.2.1 = q.2.1 ∧ RelV p.2.2 q.2.2
/-- the dict at a, its entries raw; only the object at a is spoken of -/
def DictAt (P : Program) (w : World) (h : Heap) (a : Addr) (kas : KA) : Prop :=
  (a == sysModules) = false ∧ kas.length ≤ sizeLine ∧ ∃ xs : List (NestedKey × Addr × Value), Paired KaRel kas xs ∧
    ∃ o es ep, h.get? a = some o ∧ o.ExactDict ∧ o.data = .dict es ep ∧ es.toList = xs.map (entryOfKey (nestedKind P w)) ∧ (xs.map (·.1)).Nodup
def dictO (P : Program) (w : World) (a : Addr) (kas : KA) : HO := .ext fun h => DictAt P w h a kas
theorem DictAt.to {P : Program} {w : World} {h h' : Heap} {a : Addr} {kas : KA} (x : DictAt P w h a kas) (k : ∀ o, h.get? a = some o → h'.get? a = some o) : DictAt P w h' a kas := by
  obtain ⟨y, z, xs, r, o, es, ep, ho, c⟩ := x
  exact ⟨y, z, xs, r, o, es, ep, k o ho, c⟩
theorem dictO_ok {P : Program} {w : World} {H : Hp} {h : Heap} {a : Addr} {kas : KA} (x : DictAt P w h a kas) : ObjOk P w H h a (dictO P w a kas) := by
  refine ⟨x, ?_, fun h1 h2 p k => DictAt.to p k⟩
  obtain ⟨_, _, _, _, o, _, _, ho, _⟩ := x
  exact ⟨o, ho⟩
theorem dictO_at {P : Program} {w : World} {H : Hp} {h : Heap} {a : Addr} {kas : KA} (x : ObjOk P w H h a (dictO P w a kas)) : DictAt P w h a kas := x.1

/-! ### a value reads as data -/
mutual
inductive Rp (T : Tx) (H : Hp) : V → PyData → Prop
  | non : Rp T H .non .none
  | bl (b : Bool) : Rp T H (.bl b) (.bool b)
  | int (i : Int) : Rp T H (.int i) (.int i)
  | str (x : Str) : Rp T H (.str x) (.str x)
  | lst {a : Addr} {xs : List V} {ds : List PyData} : H a = some (.lst xs) → RpAll T H xs ds → Rp T H (.ref a) (.list ds)
  | tup {a : Addr} {xs : List V} {ds : List PyData} : SqT T.K H a xs → RpAll T H xs ds → Rp T H (.ref a) (.tuple ds)
  | dic {a : Addr} {od : Obj} {kas : KA} {kvs : List (PyData × PyData)} : H a = some (.frz od (dictO T.P T.w a kas)) → RpKv T H kas kvs → Rp T H (.ref a) (.dict kvs)
inductive RpAll (T : Tx) (H : Hp) : List V → List PyData → Prop
  | nil : RpAll T H [] []
  | cons {v : V} {vs : List V} {d : PyData} {ds : List PyData} : Rp T H v d → RpAll T H vs ds → RpAll T H (v :: vs) (d :: ds)
inductive RpKv (T : Tx) (H : Hp) : KA → List (PyData × PyData) → Prop
  | nil : RpKv T H [] []
  | cons {k : NestedKey} {b : Addr} {v : V} {d : PyData} {kas : KA} {kvs : List (PyData × PyData)} : Rp T H (.ref b) k.data → k.depth ≤ 8 → Rp T H v d → RpKv T H kas kvs → RpKv T H ((k, b, v) :: kas) ((k.data, d) :: kvs)
end

theorem same_t {K : PySem.W.Frag} {H H' : Hp} {a : Addr} {xs : List V} (e : Same H H') (h : SqT K H a xs) : SqT K H' a xs := by
  rcases h with (h | ⟨o, h⟩) | h
  · exact .inl (.inl (e _ _ h))
  · exact .inl (.inr ⟨o, e _ _ h⟩)
  · exact .inr h
section
variable {T : Tx} {H H' : Hp}
mutual
theorem Rp.mono (e : Same H H') : ∀ {v : V} {d : PyData}, Rp T H v d → Rp T H' v d
  | _, _, .non => .non
  | _, _, .bl b => .bl b
  | _, _, .int i => .int i
  | _, _, .str x => .str x
  | _, _, .lst h r => .lst (e _ _ h) (RpAll.mono e r)
  | _, _, .tup h r => .tup (same_t e h) (RpAll.mono e r)
  | _, _, .dic h r => .dic (e _ _ h) (RpKv.mono e r)
theorem RpAll.mono (e : Same H H') : ∀ {vs : List V} {ds : List PyData}, RpAll T H vs ds → RpAll T H' vs ds
  | _, _, .nil => .nil
  | _, _, .cons a b => .cons (Rp.mono e a) (RpAll.mono e b)
theorem RpKv.mono (e : Same H H') : ∀ {kas : KA} {kvs : List (PyData × PyData)}, RpKv T H kas kvs → RpKv T H' kas kvs
  | _, _, .nil => .nil
  | _, _, .cons a b c d => .cons (Rp.mono e a) b (Rp.mono e c) (RpKv.mono e d)
end

theorem RpAll.length : ∀ {vs : List V} {ds : List PyData}, RpAll T H vs ds → vs.length = ds.length
  | _, _, .nil => rfl
  | _, _, .cons _ b => by rw [List.length_cons, List.length_cons, RpAll.length b]
theorem RpAll.get : ∀ {vs : List V} {ds : List PyData} {i : Nat} {d : PyData}, RpAll T H vs ds → ds[i]? = some d → ∃ v, vs[i]? = some v ∧ Rp T H v d
  | _, _, _, _, .nil, e => by simp at e
  | _, _, 0, _, .cons a _, e => by simp at e; subst e; exact ⟨_, rfl, a⟩
  | _, _, i + 1, d, .cons _ b, e => by
    obtain ⟨v, h1, h2⟩ := RpAll.get (i := i) (d := d) b (by simpa using e)
    exact ⟨v, by simpa using h1, h2⟩
theorem RpAll.getV : ∀ {vs : List V} {ds : List PyData} {i : Nat} {v : V}, RpAll T H vs ds → vs[i]? = some v → ∃ d, ds[i]? = some d ∧ Rp T H v d
  | _, _, _, _, .nil, e => by simp at e
  | _, _, 0, _, .cons a _, e => by simp at e; subst e; exact ⟨_, rfl, a⟩
  | _, _, i + 1, d, .cons _ b, e => by
    obtain ⟨v, h1, h2⟩ := RpAll.getV (i := i) (v := d) b (by simpa using e)
    exact ⟨v, by simpa using h1, h2⟩
theorem RpAll.append : ∀ {vs ws : List V} {ds es : List PyData}, RpAll T H vs ds → RpAll T H ws es → RpAll T H (vs ++ ws) (ds ++ es)
  | _, _, _, _, .nil, s => s
  | _, _, _, _, .cons a b, s => .cons a (RpAll.append b s)
theorem RpAll.snoc {vs : List V} {ds : List PyData} {v : V} {d : PyData} (h : RpAll T H vs ds) (r : Rp T H v d) : RpAll T H (vs ++ [v]) (ds ++ [d]) := h.append (.cons r .nil)
theorem RpAll.set {v : V} {d : PyData} (r : Rp T H v d) : ∀ {vs : List V} {ds : List PyData} (i : Nat), RpAll T H vs ds → RpAll T H (vs.set i v) (ds.set i d)
  | _, _, _, .nil => .nil
  | _, _, 0, .cons _ b => .cons r b
  | _, _, i + 1, .cons a b => .cons a (RpAll.set r i b)
theorem RpAll.take : ∀ {vs : List V} {ds : List PyData} (n : Nat), RpAll T H vs ds → RpAll T H (vs.take n) (ds.take n)
  | _, _, 0, _ => .nil
  | _, _, _ + 1, .nil => .nil
  | _, _, n + 1, .cons a b => .cons a (RpAll.take n b)
theorem RpAll.drop : ∀ {vs : List V} {ds : List PyData} (n : Nat), RpAll T H vs ds → RpAll T H (vs.drop n) (ds.drop n)
  | _, _, 0, r => r
  | _, _, _ + 1, .nil => .nil
  | _, _, n + 1, .cons _ b => RpAll.drop n b
theorem RpAll.reverse : ∀ {vs : List V} {ds : List PyData}, RpAll T H vs ds → RpAll T H vs.reverse ds.reverse
  | _, _, .nil => .nil
  | _, _, .cons a b => by
    rw [List.reverse_cons, List.reverse_cons]
    exact (RpAll.reverse b).snoc a
theorem RpAll.rep {vs : List V} {ds : List PyData} (h : RpAll T H vs ds) : ∀ k : Nat, RpAll T H (List.replicate k vs).flatten (List.replicate k ds).flatten
  | 0 => .nil
  | k + 1 => by
    rw [List.replicate_succ, List.replicate_succ, List.flatten_cons, List.flatten_cons]
    exact h.append (RpAll.rep h k)
theorem RpAll.ints : ∀ {vs : List V} {ns : List Int}, RpAll T H vs (ns.map PyData.int) → vs = ns.map V.int
  | _, [], .nil => rfl
  | _, n :: ns, .cons a b => by
    cases a
    rw [List.map_cons, RpAll.ints b]
theorem RpAll.bls : ∀ {vs : List V} {bs : List Bool}, RpAll T H vs (bs.map PyData.bool) → vs = bs.map V.bl
  | _, [], .nil => rfl
  | _, n :: ns, .cons a b => by
    cases a
    rw [List.map_cons, RpAll.bls b]
theorem RpAll.of_ints (T : Tx) (H : Hp) : ∀ ns : List Int, RpAll T H (ns.map V.int) (ns.map PyData.int)
  | [] => .nil
  | n :: ns => .cons (.int n) (RpAll.of_ints T H ns)
theorem Rp.int_inv {v : V} {i : Int} (h : Rp T H v (.int i)) : v = .int i := by cases h; rfl
theorem Rp.bl_inv {v : V} {b : Bool} (h : Rp T H v (.bool b)) : v = .bl b := by cases h; rfl
theorem Rp.non_inv {v : V} (h : Rp T H v .none) : v = .non := by cases h; rfl
theorem Rp.lst_inv {v : V} {ds : List PyData} (h : Rp T H v (.list ds)) : ∃ a xs, v = .ref a ∧ H a = some (.lst xs) ∧ RpAll T H xs ds := by
  cases h with
  | lst h r => exact ⟨_, _, rfl, h, r⟩
theorem Rp.tup_inv {v : V} {ds : List PyData} (h : Rp T H v (.tuple ds)) : ∃ a xs, v = .ref a ∧ SqT T.K H a xs ∧ RpAll T H xs ds := by
  cases h with
  | tup h r => exact ⟨_, _, rfl, h, r⟩
theorem Rp.dic_inv {v : V} {kvs : List (PyData × PyData)} (h : Rp T H v (.dict kvs)) : ∃ a od kas, v = .ref a ∧ H a = some (.frz od (dictO T.P T.w a kas)) ∧ RpKv T H kas kvs := by
  cases h with
  | dic h r => exact ⟨_, _, _, rfl, h, r⟩
/-- data that is no object -/
def flatD : PyData → Bool
  | .none => true
  | .bool _ => true
  | .int _ => true
  | .str _ => true
  | _ => false
theorem Rp.flat {v : V} {d : PyData} (f : flatD d = true) (h : Rp T H v d) (H' : Hp) : Rp T H' v d := by
  cases h with
  | non => exact .non
  | bl b => exact .bl b
  | int i => exact .int i
  | str x => exact .str x
  | lst => cases f
  | tup => cases f
  | dic => cases f
theorem Rp.none_iff {v : V} {d : PyData} (h : Rp T H v d) : decide (v = V.non) = (match d with | .none => true | _ => false) := by
  cases h <;> simp
mutual
/-- data without dicts reads as HandS's data -/
def noDict : PyData → Bool
  | .dict _ => false
  | .list ds => noDicts ds
  | .tuple ds => noDicts ds
  | _ => true
def noDicts : List PyData → Bool
  | [] => true
  | d :: ds => noDict d && noDicts ds
end
mutual
theorem Rp.dp : ∀ {v : V} {d : PyData}, noDict d = true → Rp T H v d → Dp T.K H v d
  | _, _, _, .non => .non
  | _, _, _, .bl b => .bl b
  | _, _, _, .int i => .int i
  | _, _, _, .str x => .str x
  | _, .list ds, n, .lst h r => .lst (SqL.of h) (RpAll.dp (by simpa [noDict] using n) r)
  | _, .tuple ds, n, .tup h r => .tup h (RpAll.dp (by simpa [noDict] using n) r)
  | _, _, n, .dic _ _ => by simp [noDict] at n
theorem RpAll.dp : ∀ {vs : List V} {ds : List PyData}, noDicts ds = true → RpAll T H vs ds → DpAll T.K H vs ds
  | _, _, _, .nil => .nil
  | _, d :: ds, n, .cons a b => by
    have q : noDict d = true ∧ noDicts ds = true := by simpa [noDicts] using n
    exact .cons (Rp.dp q.1 a) (RpAll.dp q.2 b)
end
mutual
theorem noDict_of_shaped : ∀ {d : PyData}, d.canLay0 = true → noDict d = true
  | .none, _ => rfl
  | .bool _, _ => rfl
  | .int _, _ => rfl
  | .str _, _ => rfl
  | .list ds, h => by
    have q : PyData.canLayAll0 ds = true := by simpa [PyData.canLay0] using h
    simp only [noDict]
    exact noDicts_of_shaped q
  | .tuple ds, h => by
    have q : PyData.canLayAll0 ds = true := by simpa [PyData.canLay0] using h
    simp only [noDict]
    exact noDicts_of_shaped q
  | .dict _, h => by simp [PyData.canLay0] at h
theorem noDicts_of_shaped : ∀ {ds : List PyData}, PyData.canLayAll0 ds = true → noDicts ds = true
  | [], _ => rfl
  | d :: ds, h => by
    have q : d.canLay0 = true ∧ PyData.canLayAll0 ds = true := by simpa [PyData.canLayAll0] using h
    simp only [noDicts, noDict_of_shaped q.1, noDicts_of_shaped q.2, Bool.and_self]
end
end
end DL

/-! DL, part B: the judgements. -/
namespace DL
open PySem PySem.Spec L2
open PyProof.Rows hiding St

/-- (G', H') extends (G, H); what H knew and G did not stays out of G' -/
structure Ext (G H G' H' : Hp) : Prop where
  g : Same G G'
  h : Same H H'
  gh : Same G' H'
  sep : ∀ a o, H a = some o → G a = none → G' a = none
section
variable {G H G1 H1 G2 H2 : Hp} {p : Addr} {o : HO}
theorem Ext.refl (e : Same G H) : Ext G H G H := ⟨Same.refl _, Same.refl _, e, fun _ _ _ h => h⟩
theorem Ext.trans (a : Ext G H G1 H1) (b : Ext G1 H1 G2 H2) : Ext G H G2 H2 :=
  ⟨a.g.trans b.g, a.h.trans b.h, b.gh, fun q o h1 h2 => b.sep q o (a.h q o h1) (a.sep q o h1 h2)⟩
theorem same_new (h : H p = none) : Same H (upd H p o) := fun b x e => by
  rw [upd_ne (ne_of_none e h)]
  exact e
theorem same_upd2 (e : Same G H) : Same (upd G p o) (upd H p o) := fun b x q => by
  by_cases hb : b = p
  · subst hb; rw [upd_same] at q ⊢; exact q
  · rw [upd_ne hb] at q ⊢; exact e b x q
theorem Ext.new (e : Same G H) (h : H p = none) : Ext G H (upd G p o) (upd H p o) :=
  ⟨same_new (e.free h), same_new h, same_upd2 e, fun a x h1 h2 => by rw [upd_ne (ne_of_none h1 h)]; exact h2⟩
theorem Ext.hid (e : Same G H) (h : H p = none) : Ext G H G (upd H p o) :=
  ⟨Same.refl _, same_new h, e.trans (same_new h), fun _ _ _ h => h⟩
/-- only the small heap grows, by what the large one holds since -/
theorem Ext.take (e : Ext G H G1 H1) (h : H p = none) (hp : H1 p = some o) (hg : G1 p = none) : Ext G H (upd G1 p o) H1 :=
  ⟨fun b x q => by rw [upd_ne (ne_of_none (e.g b x q) hg)]; exact e.g b x q, e.h, fun b x q => by
    by_cases hb : b = p
    · subst hb; rw [upd_same] at q; cases q; exact hp
    · rw [upd_ne hb] at q; exact e.gh b x q, fun a x h1 h2 => by rw [upd_ne (ne_of_none h1 h)]; exact e.sep a x h1 h2⟩
end

/-! ### dict entries by nested keys -/
inductive RpKd (T : Tx) (H : Hp) : KA → List (NestedKey × PyData) → Prop
  | nil : RpKd T H [] []
  | cons {k : NestedKey} {b : Addr} {v : V} {d : PyData} {kas : KA} {kvs : List (NestedKey × PyData)} : Rp T H (.ref b) k.data → k.depth ≤ 8 → Rp T H v d → RpKd T H kas kvs → RpKd T H ((k, b, v) :: kas) ((k, d) :: kvs)
abbrev dictD (kvs : List (NestedKey × PyData)) : PyData := .dict (kvs.map fun p => (p.1.data, p.2))
mutual
theorem data_inj : ∀ {a b : NestedKey}, a.data = b.data → a = b
  | .none, .none, _ => rfl
  | .num a, .num b, h => by simp only [NestedKey.data, PyData.int.injEq] at h; rw [h]
  | .text a, .text b, h => by simp only [NestedKey.data, PyData.str.injEq] at h; rw [h]
  | .tup a, .tup b, h => by
    simp only [NestedKey.data, PyData.tuple.injEq] at h
    rw [datas_inj h]
  | .none, .num _, h => by simp [NestedKey.data] at h
  | .none, .text _, h => by simp [NestedKey.data] at h
  | .none, .tup _, h => by simp [NestedKey.data] at h
  | .num _, .none, h => by simp [NestedKey.data] at h
  | .num _, .text _, h => by simp [NestedKey.data] at h
  | .num _, .tup _, h => by simp [NestedKey.data] at h
  | .text _, .none, h => by simp [NestedKey.data] at h
  | .text _, .num _, h => by simp [NestedKey.data] at h
  | .text _, .tup _, h => by simp [NestedKey.data] at h
  | .tup _, .none, h => by simp [NestedKey.data] at h
  | .tup _, .num _, h => by simp [NestedKey.data] at h
  | .tup _, .text _, h => by simp [NestedKey.data] at h
theorem datas_inj : ∀ {a b : List NestedKey}, NestedKey.datas a = NestedKey.datas b → a = b
  | [], [], _ => rfl
  | x :: xs, y :: ys, h => by
    simp only [NestedKey.datas, List.cons.injEq] at h
    rw [data_inj h.1, datas_inj h.2]
  | [], _ :: _, h => by simp [NestedKey.datas] at h
  | _ :: _, [], h => by simp [NestedKey.datas] at h
end
section
variable {T : Tx} {H H' : Hp}
theorem RpKd.kv : ∀ {kas : KA} {kvs : List (NestedKey × PyData)}, RpKd T H kas kvs → RpKv T H kas (kvs.map fun p => (p.1.data, p.2))
  | _, _, .nil => .nil
  | _, _, .cons a b c d => .cons a b c (RpKd.kv d)
theorem RpKd.of_kv : ∀ {kas : KA} {kvs : List (NestedKey × PyData)}, RpKv T H kas (kvs.map fun p => (p.1.data, p.2)) → RpKd T H kas kvs
  | kas, [], h => by cases h; exact .nil
  | kas, (k, d) :: kvs, h => by
    rw [List.map_cons] at h
    generalize he : (k.data, d) = e at h
    cases h with
    | @cons k' b v d' kas' kvs' h1 h2 h3 h4 =>
      injection he with e1 e2
      have ek := data_inj e1
      subst ek e2
      exact .cons h1 h2 h3 (RpKd.of_kv h4)
theorem RpKd.mono (e : Same H H') : ∀ {kas : KA} {kvs : List (NestedKey × PyData)}, RpKd T H kas kvs → RpKd T H' kas kvs
  | _, _, .nil => .nil
  | _, _, .cons a b c d => .cons (a.mono e) b (c.mono e) (RpKd.mono e d)
theorem RpKd.length : ∀ {kas : KA} {kvs : List (NestedKey × PyData)}, RpKd T H kas kvs → kas.length = kvs.length
  | _, _, .nil => rfl
  | _, _, .cons _ _ _ d => by rw [List.length_cons, List.length_cons, RpKd.length d]
theorem Rp.dic_of {a : Addr} {od : Obj} {kas : KA} {kvs : List (NestedKey × PyData)} (h : H a = some (.frz od (dictO T.P T.w a kas))) (r : RpKd T H kas kvs) : Rp T H (.ref a) (dictD kvs) := .dic h r.kv
theorem Rp.dicD_inv {v : V} {kvs : List (NestedKey × PyData)} (h : Rp T H v (dictD kvs)) : ∃ a od kas, v = .ref a ∧ H a = some (.frz od (dictO T.P T.w a kas)) ∧ RpKd T H kas kvs := by
  obtain ⟨a, od, kas, e, h1, h2⟩ := h.dic_inv
  exact ⟨a, od, kas, e, h1, .of_kv h2⟩
end

/-! ### slots -/
/-- what is known of an object of several parts, the parts at fp -/
structure ObP where
  fp : List Addr
  φ : Hp → Hp → V → Prop
  loc : ∀ {G H G' H' : Hp} {v : V}, φ G H v → Same G G' → (∀ a ∈ fp, H' a = H a) → φ G' H' v
inductive SV where
  | unk
  | dat (d : PyData)
  | own (ds : List PyData)
  | ownd (kvs : List (NestedKey × PyData))
  | gen (φ : V → Hp → Prop) (m : ∀ v G G', Same G G' → φ v G → φ v G')
  | obj (P : ObP)
  | bot
def SlotOk (T : Tx) (G H : Hp) (o : Option (Option V)) : SV → Prop
  | .unk => True
  | .dat d => ∃ v, o = some (some v) ∧ Rp T G v d
  | .own ds => ∃ a xs, o = some (some (.ref a)) ∧ G a = none ∧ H a = some (.lst xs) ∧ RpAll T G xs ds
  | .ownd kvs => ∃ a kas, o = some (some (.ref a)) ∧ G a = none ∧ H a = some (dictO T.P T.w a kas) ∧ RpKd T G kas kvs
  | .gen φ _ => ∃ v, o = some (some v) ∧ φ v G
  | .obj P => ∃ v, o = some (some v) ∧ P.φ G H v ∧ ∀ a ∈ P.fp, G a = none ∧ H a ≠ none
  | .bot => False
abbrev Sls := List SV
structure Sl (T : Tx) (r : Sls) (σ : St) (G H : Hp) : Prop where
  len : σ.length = r.length
  at_ : ∀ (i : Nat) (s : SV), r[i]? = some s → SlotOk T G H σ[i]? s
section
variable {T : Tx} {G H G' H' : Hp} {r : Sls} {σ : St}
theorem SlotOk.mono {o : Option (Option V)} {s : SV} (e : Ext G H G' H') (h : SlotOk T G H o s) : SlotOk T G' H' o s := by
  cases s with
  | unk => trivial
  | dat d => obtain ⟨v, e1, e2⟩ := h; exact ⟨v, e1, e2.mono e.g⟩
  | own ds => obtain ⟨a, xs, e1, e2, e3, e4⟩ := h; exact ⟨a, xs, e1, e.sep _ _ e3 e2, e.h _ _ e3, e4.mono e.g⟩
  | ownd kvs => obtain ⟨a, xs, e1, e2, e3, e4⟩ := h; exact ⟨a, xs, e1, e.sep _ _ e3 e2, e.h _ _ e3, e4.mono e.g⟩
  | gen φ m => obtain ⟨v, e1, e2⟩ := h; exact ⟨v, e1, m _ _ _ e.g e2⟩
  | obj P =>
    obtain ⟨v, e1, e2, e3⟩ := h
    have hk : ∀ a ∈ P.fp, H' a = H a := fun a ha => by
      cases q : H a with
      | none => exact absurd q (e3 a ha).2
      | some u => exact e.h _ _ q
    refine ⟨v, e1, P.loc e2 e.g hk, fun a ha => ⟨?_, by rw [hk a ha]; exact (e3 a ha).2⟩⟩
    cases q : H a with
    | none => exact absurd q (e3 a ha).2
    | some u => exact e.sep _ _ q (e3 a ha).1
  | bot => exact h
theorem Sl.mono (e : Ext G H G' H') (h : Sl T r σ G H) : Sl T r σ G' H' := ⟨h.len, fun i s hs => (h.at_ i s hs).mono e⟩
theorem Sl.dat {i : Nat} {d : PyData} (h : Sl T r σ G H) (e : r[i]? = some (.dat d)) : ∃ v, σ[i]? = some (some v) ∧ Rp T G v d := h.at_ i _ e
/-- owned lists as they stand -/
def ObP.asG (P : ObP) : SV := .gen (fun v G => P.φ G G v ∧ ∀ a ∈ P.fp, G a ≠ none) fun v G G' s h => ⟨P.loc h.1 s fun a ha => by
  cases q : G a with
  | none => exact absurd q (h.2 a ha)
  | some u => exact s _ _ q, fun a ha => by
  cases q : G a with
  | none => exact absurd q (h.2 a ha)
  | some u => rw [s _ _ q]; simp⟩
def view : SV → SV
  | .own ds => .dat (.list ds)
  | .ownd _ => .unk
  | .obj P => P.asG
  | s => s
theorem Sl.view (e : Same G H) (h : Sl T r σ G H) : Sl T (r.map DL.view) σ H H := by
  refine ⟨by rw [List.length_map]; exact h.len, fun i s hs => ?_⟩
  rw [List.getElem?_map] at hs
  obtain ⟨s0, h0, rfl⟩ := Option.map_eq_some_iff.mp hs
  have q := h.at_ i s0 h0
  cases s0 with
  | unk => trivial
  | dat d => obtain ⟨v, e1, e2⟩ := q; exact ⟨v, e1, e2.mono e⟩
  | own ds => obtain ⟨a, xs, e1, e2, e3, e4⟩ := q; exact ⟨_, e1, .lst e3 (e4.mono e)⟩
  | ownd kvs => trivial
  | gen φ m => obtain ⟨v, e1, e2⟩ := q; exact ⟨v, e1, m _ _ _ e e2⟩
  | obj P => obtain ⟨v, e1, e2, e3⟩ := q; exact ⟨v, e1, P.loc e2 e fun _ _ => rfl, fun a ha => (e3 a ha).2⟩
  | bot => exact q
end

/-! ### sets of contexts -/
structure CxIs (T : Tx) (N : List Str) (tab : List (Str × NameKind)) (k : Nat) (fnc : Str → Bool) (X : Cx) : Prop where
  eP : X.prog = T.P
  ew : X.w = T.w
  eK : X.K = T.K
  emg : X.mg = T.mg
  ebase : X.base = T.base
  nd : N.Nodup
  eN : X.N = N
  etab : X.env.scope.names = tab
  fk : X.env.scope.kind = .function
  calm : X.calm = true
  room : Room k X.A
  fn : ∀ x, fnc x = true → X.fn x = true
  xe : X.xe = fun _ _ => False
structure CS (T : Tx) where
  S : Cx → Prop
  N : List Str
  tab : List (Str × NameKind)
  k : Nat
  fnc : Str → Bool
  ok : ∀ X, S X → CxIs T N tab k fnc X
/-- the set of one context -/
def CS.one {T : Tx} {N : List Str} {tab : List (Str × NameKind)} {k : Nat} {fnc : Str → Bool} (X : Cx) (h : CxIs T N tab k fnc X) : CS T := ⟨fun Y => Y = X, N, tab, k, fnc, fun Y e => by subst e; exact h⟩
def relab (scope : Scope) (tab : List (Str × NameKind)) : List (Str × NameKind) := scope.names.map fun (n, k) => if (k == .free && tab.lookup n == some .cell) = true then (n, .cell) else (n, k)
/-- the blocks of a comprehension -/
def CS.blk {T : Tx} (C : CS T) (scope : Scope) : CS T where
  S := fun Y => scope.kind = .function ∧ ∃ (X : Cx) (s : Shared) (H : Hp) (A : Addr) (cl : List (Str × Addr)) (fp : List Addr), C.S X ∧ Y = X.blk s H scope (compEnvC scope cl A X.env) fp
  N := C.N
  tab := relab scope C.tab
  k := C.k
  fnc := fun x => scope.names.lookup x == some .cell
  ok := by
    rintro Y ⟨hk, X, s, H, A, cl, fp, hX, rfl⟩
    have c := C.ok X hX
    refine ⟨c.eP, c.ew, c.eK, c.emg, c.ebase, c.nd, c.eN, ?_, hk, c.calm, c.room, fun x h => h, rfl⟩
    show (scope.names.map fun (p : Str × NameKind) => match p with | (n, k) => if (k == NameKind.free && X.env.scope.kind == ScopeKind.function && X.env.kindOf n == some NameKind.cell) = true then (n, NameKind.cell) else (n, k)) = _
    unfold relab
    refine List.map_congr_left fun p _ => ?_
    obtain ⟨n, k⟩ := p
    have e1 : X.env.kindOf n = C.tab.lookup n := by
      show X.env.scope.names.lookup n = _
      rw [c.etab]
    show (if (k == NameKind.free && X.env.scope.kind == ScopeKind.function && X.env.kindOf n == some NameKind.cell) = true then (n, NameKind.cell) else (n, k)) = _
    rw [e1, c.fk, show (ScopeKind.function == ScopeKind.function) = true by decide, Bool.and_true]

/-! ### what readings give -/
def EvD (T : Tx) (r : Sls) (t : TE) (d : PyData) : Prop := ∀ (σ : St) (G H : Hp) (Q : VK), Same G H → Sl T r σ G H → (∀ v G' H', Ext G H G' H' → Rp T G' v d → Q v H') → t σ H Q
def EvB (T : Tx) (r : Sls) (t : TT) (b : Bool) : Prop := ∀ (σ : St) (G H : Hp) (Q : Bool → Hp → Prop), Same G H → Sl T r σ G H → (∀ G' H', Ext G H G' H' → Q b H') → t σ H Q
def EvA (T : Tx) (r : Sls) (t : TA) (ds : List PyData) : Prop := ∀ (σ : St) (G H : Hp) (Q : List V → Hp → Prop), Same G H → Sl T r σ G H → (∀ vs G' H', Ext G H G' H' → RpAll T G' vs ds → Q vs H') → t σ H Q
/-- a new list, not yet among what never changes -/
def EvN (T : Tx) (r : Sls) (t : TE) (ds : List PyData) : Prop := ∀ (σ : St) (G H : Hp) (Q : VK), Same G H → Sl T r σ G H →
  (∀ p xs G' H', H p = none → Ext G H G' H' → G' p = none → H' p = some (.lst xs) → RpAll T G' xs ds → Q (.ref p) H') → t σ H Q
/-- a new dict -/
def EvM (T : Tx) (r : Sls) (t : TE) (kvs : List (NestedKey × PyData)) : Prop := ∀ (σ : St) (G H : Hp) (Q : VK), Same G H → Sl T r σ G H →
  (∀ p kas G' H', H p = none → Ext G H G' H' → G' p = none → H' p = some (dictO T.P T.w p kas) → RpKd T G' kas kvs → Q (.ref p) H') → t σ H Q
section
variable {T : Tx}
def DE (C : CS T) (e : Expr) (r : Sls) (d : PyData) : Prop := ∃ t, (∀ X, C.S X → PE X e t) ∧ EvD T r t d
def DT (C : CS T) (e : Expr) (r : Sls) (b : Bool) : Prop := ∃ t, (∀ X, C.S X → PT X e t) ∧ EvB T r t b
def DW (C : CS T) (e : Expr) (r : Sls) (b : Bool) : Prop := ∃ t, (∀ X, C.S X → PW X e t) ∧ EvB T r t b
def DAs (C : CS T) (es : List Expr) (r : Sls) (ds : List PyData) : Prop := ∃ t, (∀ X, C.S X → PA X es t) ∧ EvA T r t ds
def DN (C : CS T) (e : Expr) (r : Sls) (ds : List PyData) : Prop := ∃ t, (∀ X, C.S X → PE X e t) ∧ EvN T r t ds
def DM (C : CS T) (e : Expr) (r : Sls) (kvs : List (NestedKey × PyData)) : Prop := ∃ t, (∀ X, C.S X → PE X e t) ∧ EvM T r t kvs
end
theorem EvN.d {T : Tx} {r : Sls} {t : TE} {ds : List PyData} (h : EvN T r t ds) : EvD T r t (.list ds) := fun σ G H Q e s q =>
  h σ G H Q e s fun p xs G' H' hp x hg hh ra => q _ _ _ (x.take hp hh hg) (.lst upd_same (ra.mono (same_new hg)))
theorem DN.e {T : Tx} {C : CS T} {e : Expr} {r : Sls} {ds : List PyData} (h : DN C e r ds) : DE C e r (.list ds) := let ⟨t, h1, h2⟩ := h; ⟨t, h1, h2.d⟩

/-! ### statements -/
/-- a slot's owned object -/
def OwnV (o : Option (Option V)) (s : Option SV) (a : Addr) : Prop := (o = some (some (.ref a)) ∧ ((∃ ds, s = some (SV.own ds)) ∨ ∃ kvs, s = some (SV.ownd kvs))) ∨ ∃ P, s = some (.obj P) ∧ a ∈ P.fp
def OwnAt (r : Sls) (σ : St) (i : Nat) (a : Addr) : Prop := OwnV σ[i]? r[i]? a
/-- nothing is owned by it -/
def noOwn : SV → Prop
  | .own _ => False
  | .ownd _ => False
  | .obj _ => False
  | _ => True
theorem OwnV.no {o : Option (Option V)} {s : SV} {a : Addr} (h : noOwn s) : ¬ OwnV o (some s) a := by
  rintro (⟨_, ⟨_, e⟩ | ⟨_, e⟩⟩ | ⟨_, e, _⟩) <;> cases e <;> exact h
theorem OwnV.none {o : Option (Option V)} {a : Addr} : ¬ OwnV o Option.none a := by
  rintro (⟨_, ⟨_, e⟩ | ⟨_, e⟩⟩ | ⟨_, e, _⟩) <;> cases e
structure Bs (T : Tx) (G0 H0 : Hp) (r : Sls) (σ : St) (G H : Hp) : Prop where
  ext : Ext G0 H0 G H
  sl : Sl T r σ G H
  own : ∀ i a, OwnAt r σ i a → H0 a = none ∧ ∀ j, OwnAt r σ j a → j = i
theorem Bs.mono {T : Tx} {G0 H0 G H G' H' : Hp} {r : Sls} {σ : St} (h : Bs T G0 H0 r σ G H) (e : Ext G H G' H') : Bs T G0 H0 r σ G' H' := ⟨h.ext.trans e, h.sl.mono e, h.own⟩
def StD (T : Tx) (r : Sls) (R : PyData → Prop) (r' : Sls) (t : TS) : Prop := ∀ (G0 H0 : Hp) (σ : St) (G H : Hp) (D : Ends), Bs T G0 H0 r σ G H → (∀ σ' G' H', Bs T G0 H0 r' σ' G' H' → D.nx σ' H') →
  (∀ d v G' H', R d → Ext G0 H0 G' H' → Rp T G' v d → D.rt v H') → t D σ H
section
variable {T : Tx}
def DS (C : CS T) (st : Stmt) (r : Sls) (R : PyData → Prop) (r' : Sls) : Prop := ∃ t, (∀ X, C.S X → PS X st t) ∧ StD T r R r' t
def DSs (C : CS T) (sts : List Stmt) (r : Sls) (R : PyData → Prop) (r' : Sls) : Prop := ∃ t, (∀ X, C.S X → PSs X sts t) ∧ StD T r R r' t
/-- only the slots ix are stored; nothing is owned that was not -/
structure Touch (ix : List Nat) (r : Sls) (σ : St) (r' : Sls) (σ' : St) : Prop where
  len : σ'.length = σ.length
  out : ∀ j, j ∉ ix → σ'[j]? = σ[j]?
  own : ∀ j a, OwnAt r' σ' j a → OwnAt r σ j a
theorem Touch.refl {ix : List Nat} {r : Sls} {σ : St} : Touch ix r σ r σ := ⟨rfl, fun _ _ => rfl, fun _ _ h => h⟩
theorem Touch.trans {ix jx : List Nat} {r r1 r2 : Sls} {σ σ1 σ2 : St} (a : Touch ix r σ r1 σ1) (b : Touch jx r1 σ1 r2 σ2) : Touch (ix ++ jx) r σ r2 σ2 :=
  ⟨b.len.trans a.len, fun j h => (b.out j fun z => h (List.mem_append_right _ z)).trans (a.out j fun z => h (List.mem_append_left _ z)), fun j x h => a.own j x (b.own j x h)⟩
/-- a target that is given a value -/
def DG (C : CS T) (tg : Expr) (r : Sls) (d : PyData) (r' : Sls) (ix : List Nat) : Prop := ∃ g, (∀ X, C.S X → PG X tg g) ∧ ∀ (σ : St) (G H : Hp) (v : V) (Q : St → Hp → Prop), Same G H → Sl T r σ G H → Rp T G v d → (∀ σ', Sl T r' σ' G H → Touch ix r σ r' σ' → Q σ' H) → g v σ H Q
/-- a way through things: at each turn below the length it goes and gives its datum -/
structure WalkD (T : Tx) (J : It) (ds : List PyData) (G1 : Hp) (H1 : Hp) : Prop where
  go : ∀ i d G H, ds[i]? = some d → Same G1 G → Same G H → J.go i H ∧ ∀ x H', J.yld i H x H' → ∃ G', Ext G H G' H' ∧ Rp T G' x d
  stop : ∀ G H, Same G1 G → Same G H → J.stop ds.length H
def DI (C : CS T) (tg e : Expr) (r : Sls) (ds : List PyData) : Prop := ∃ wi, (∀ X, C.S X → PI X tg e wi) ∧ ∀ (σ : St) (G H : Hp) (R : It → Hp → Prop), Same G H → Sl T r σ G H →
  (∀ J G' H', Ext G H G' H' → WalkD T J ds G' H' → R J H') → wi σ H R
end
end DL

/-! DL, part C: rules for expressions. -/
namespace DL
open PySem PySem.Spec L2
open PyProof.Rows hiding St
section
variable {T : Tx} {C : CS T} {r : Sls} {a b c e : Expr} {es : List Expr} {pos p p2 : Pos} {d d' f : PyData}

/-! ### names and constants -/
def visB (tab : List (Str × NameKind)) (x : Str) : Bool := match tab.lookup x with
  | some .local => true
  | some .cell => true
  | some .free => true
  | _ => false
theorem vis_of {X : Cx} {x : Str} (h : visB X.env.scope.names x = true) : Vis X.env.scope x := by
  unfold visB at h
  unfold Vis
  cases e : X.env.scope.names.lookup x with
  | none => rw [e] at h; cases h
  | some k => rw [e] at h; cases k <;> simp at h ⊢
theorem de_var (i : Nat) {x : Str} (hr : r[i]? = some (.dat d)) (hN : C.N[i]? = some x := by rfl) (hv : visB C.tab x = true := by rfl)
    (hd : (x == ("__debug__" : Str)) = false := by decide) (hcd : (x == ("__classdict__" : Str)) = false := by decide) : DE C (.Name x pos) r d := by
  refine ⟨tVar i, fun X hX => ?_, fun σ G H Q e s q => ?_⟩
  · have c := C.ok X hX
    exact pe_var (by rw [c.eN]; exact hN) (vis_of (by rw [c.etab]; exact hv)) hd hcd
  · obtain ⟨v, e1, e2⟩ := s.dat hr
    exact ⟨v, e1, q v G H (.refl e) e2⟩
theorem de_int {i : Int} {j} : DE C (.Constant (.int i) j pos) r (.int i) := ⟨_, fun X hX => pe_int, fun σ G H Q e s q => q _ G H (.refl e) (.int i)⟩
theorem de_bl {i : Bool} {j} : DE C (.Constant (.bool i) j pos) r (.bool i) := ⟨_, fun X hX => pe_bl, fun σ G H Q e s q => q _ G H (.refl e) (.bl i)⟩
theorem de_non {j} : DE C (.Constant .none j pos) r .none := ⟨_, fun X hX => pe_non, fun σ G H Q e s q => q _ G H (.refl e) .non⟩
theorem de_str {x : Str} {j} : DE C (.Constant (.str x) j pos) r (.str x) := ⟨_, fun X hX => pe_str, fun σ G H Q e s q => q _ G H (.refl e) (.str x)⟩
theorem gl_of {X : Cx} {x : Str} (h : X.env.scope.names = C.tab) (hg : C.tab.lookup x = some .globalImplicit) : Gl X x := by
  show X.env.scope.names.lookup x = _
  rw [h]; exact hg
/-- a global that reads as data at every heap -/
def GlobD (T : Tx) (x : Str) (d : PyData) : Prop := ∃ v u, T.mg x = some u ∧ RelV v u ∧ ∀ H, Rp T H v d
theorem de_glob {x : Str} (h : GlobD T x d) (hg : C.tab.lookup x = some .globalImplicit := by rfl) (hd : (x == ("__debug__" : Str)) = false := by decide) : DE C (.Name x pos) r d := by
  obtain ⟨v, u, h1, h2, h3⟩ := h
  refine ⟨tC v, fun X hX => ?_, fun σ G H Q e s q => q v G H (.refl e) (h3 G)⟩
  have c := C.ok X hX
  exact pe_glob (gl_of c.etab hg) (by rw [c.emg]; exact h1) h2 hd

/-! ### operators -/
theorem de_op {op : Operator} {rr : R2} (ho : ∀ X, C.S X → OpR X (binaryOp op) rr) (ha : DE C a r d) (hb : DE C b r d')
    (h : ∀ G H v u Q, Same G H → Rp T G v d → Rp T G u d' → (∀ z G' H', Ext G H G' H' → Rp T G' z f → Q z H') → rr v u H Q) : DE C (.BinOp a op b pos) r f := by
  obtain ⟨ta, pa, ea⟩ := ha
  obtain ⟨tb, pb, eb⟩ := hb
  refine ⟨_, fun X hX => pe_op (ho X hX) (pa X hX) (pb X hX), fun σ G H Q e s q => ?_⟩
  refine ea σ G H _ e s fun v G1 H1 x1 r1 => ?_
  refine eb σ G1 H1 _ x1.gh (s.mono x1) fun u G2 H2 x2 r2 => ?_
  exact h G2 H2 v u Q x2.gh (r1.mono x2.g) r2 fun z G' H' x3 r3 => q z G' H' ((x1.trans x2).trans x3) r3
theorem de_un {op : UnaryOp} {rr : V → Hp → VK → Prop} (ho : ∀ X, C.S X → UnR X (unaryOp op) rr) (ha : DE C a r d)
    (h : ∀ G H v Q, Same G H → Rp T G v d → (∀ z G' H', Ext G H G' H' → Rp T G' z f → Q z H') → rr v H Q) : DE C (.UnaryOp op a pos) r f := by
  obtain ⟨ta, pa, ea⟩ := ha
  refine ⟨_, fun X hX => pe_un (ho X hX) (pa X hX), fun σ G H Q e s q => ?_⟩
  refine ea σ G H _ e s fun v G1 H1 x1 r1 => ?_
  exact h G1 H1 v Q x1.gh r1 fun z G' H' x3 r3 => q z G' H' (x1.trans x3) r3
theorem de_cmp {op : CmpOp} {rr : R2} (ho : ∀ X, C.S X → OpR X (compareOp op) rr) (hm : behindInMarks op b = false) (ha : DE C a r d) (hb : DE C b r d')
    (h : ∀ G H v u Q, Same G H → Rp T G v d → Rp T G u d' → (∀ z G' H', Ext G H G' H' → Rp T G' z f → Q z H') → rr v u H Q) : DE C (.Compare a [op] [b] pos) r f := by
  obtain ⟨ta, pa, ea⟩ := ha
  obtain ⟨tb, pb, eb⟩ := hb
  refine ⟨_, fun X hX => pe_cmpR (ho X hX) (pa X hX) (pb X hX) hm, fun σ G H Q e s q => ?_⟩
  refine ea σ G H _ e s fun v G1 H1 x1 r1 => ?_
  refine eb σ G1 H1 _ x1.gh (s.mono x1) fun u G2 H2 x2 r2 => ?_
  exact h G2 H2 v u Q x2.gh (r1.mono x2.g) r2 fun z G' H' x3 r3 => q z G' H' ((x1.trans x2).trans x3) r3
section
variable {i j : Int}
theorem de_add (ha : DE C a r (.int i)) (hb : DE C b r (.int j)) : DE C (.BinOp a .Add b pos) r (.int (i + j)) :=
  de_op (fun _ _ => op_add) ha hb fun G H v u Q e r1 r2 q => ⟨i, j, r1.int_inv, r2.int_inv, q _ G H (.refl e) (.int _)⟩
theorem de_sub (ha : DE C a r (.int i)) (hb : DE C b r (.int j)) : DE C (.BinOp a .Sub b pos) r (.int (i - j)) :=
  de_op (fun _ _ => op_sub) ha hb fun G H v u Q e r1 r2 q => ⟨i, j, r1.int_inv, r2.int_inv, q _ G H (.refl e) (.int _)⟩
theorem de_mul (ha : DE C a r (.int i)) (hb : DE C b r (.int j)) (hc : CMul i j) : DE C (.BinOp a .Mult b pos) r (.int (i * j)) :=
  de_op (fun _ _ => op_mul) ha hb fun G H v u Q e r1 r2 q => ⟨i, j, r1.int_inv, r2.int_inv, hc, q _ G H (.refl e) (.int _)⟩
theorem de_mod (ha : DE C a r (.int i)) (hb : DE C b r (.int j)) (hc : 0 < j) : DE C (.BinOp a .Mod b pos) r (.int (i % j)) :=
  de_op (fun _ _ => op_mod) ha hb fun G H v u Q e r1 r2 q => ⟨i, j, r1.int_inv, r2.int_inv, hc, q _ G H (.refl e) (.int _)⟩
theorem de_fdiv (ha : DE C a r (.int i)) (hb : DE C b r (.int j)) (hc : CDiv i j) : DE C (.BinOp a .FloorDiv b pos) r (.int (i / j)) :=
  de_op (fun _ _ => op_fdiv) ha hb fun G H v u Q e r1 r2 q => ⟨i, j, r1.int_inv, r2.int_inv, hc, q _ G H (.refl e) (.int _)⟩
theorem de_pow (ha : DE C a r (.int i)) (hb : DE C b r (.int j)) (hc : CPow i j) : DE C (.BinOp a .Pow b pos) r (.int (i ^ j.toNat)) :=
  de_op (fun _ _ => op_pow) ha hb fun G H v u Q e r1 r2 q => ⟨i, j, r1.int_inv, r2.int_inv, hc, q _ G H (.refl e) (.int _)⟩
theorem de_neg (ha : DE C a r (.int i)) : DE C (.UnaryOp .USub a pos) r (.int (-i)) :=
  de_un (fun _ _ => un_neg) ha fun G H v Q e r1 q => ⟨i, r1.int_inv, q _ G H (.refl e) (.int _)⟩
theorem de_lt (ha : DE C a r (.int i)) (hb : DE C b r (.int j)) : DE C (.Compare a [.Lt] [b] pos) r (.bool (decide (i < j))) :=
  de_cmp (fun _ _ => op_lt) (nomark _) ha hb fun G H v u Q e r1 r2 q => ⟨i, j, r1.int_inv, r2.int_inv, q _ G H (.refl e) (.bl _)⟩
theorem de_le (ha : DE C a r (.int i)) (hb : DE C b r (.int j)) : DE C (.Compare a [.LtE] [b] pos) r (.bool (decide (i ≤ j))) :=
  de_cmp (fun _ _ => op_le) (nomark _) ha hb fun G H v u Q e r1 r2 q => ⟨i, j, r1.int_inv, r2.int_inv, q _ G H (.refl e) (.bl _)⟩
theorem de_gt (ha : DE C a r (.int i)) (hb : DE C b r (.int j)) : DE C (.Compare a [.Gt] [b] pos) r (.bool (decide (j < i))) :=
  de_cmp (fun _ _ => op_gt) (nomark _) ha hb fun G H v u Q e r1 r2 q => ⟨i, j, r1.int_inv, r2.int_inv, q _ G H (.refl e) (.bl _)⟩
theorem de_ge (ha : DE C a r (.int i)) (hb : DE C b r (.int j)) : DE C (.Compare a [.GtE] [b] pos) r (.bool (decide (j ≤ i))) :=
  de_cmp (fun _ _ => op_ge) (nomark _) ha hb fun G H v u Q e r1 r2 q => ⟨i, j, r1.int_inv, r2.int_inv, q _ G H (.refl e) (.bl _)⟩
end
/-! == and != of data, in -/
theorem lay_of {d : PyData} (h : SeqAt.shaped d = true) : d.canLay0 = true := SeqAt.canLay_of_shaped h
theorem eqR {X : Cx} (hX : C.S X) : OpR X (compareOp .Eq) (rEqD T.K) := by
  have c := C.ok X hX
  have h := op_eqD (X := X) c.room.units
  rw [c.eK] at h
  exact h
theorem neR {X : Cx} (hX : C.S X) : OpR X (compareOp .NotEq) (rNeD T.K) := by
  have c := C.ok X hX
  have h := op_neD (X := X) c.room.units
  rw [c.eK] at h
  exact h
theorem de_eq (ha : DE C a r d) (hb : DE C b r d') (h1 : SeqAt.shaped d = true := by rfl) (h2 : SeqAt.shaped d' = true := by rfl) : DE C (.Compare a [.Eq] [b] pos) r (.bool (PyData.eqv d d')) :=
  de_cmp (fun _ hX => eqR hX) (nomark _) ha hb fun G H v u Q e r1 r2 q =>
    ⟨d, d', ((r1.mono e).dp (noDict_of_shaped (lay_of h1))), ((r2.mono e).dp (noDict_of_shaped (lay_of h2))), h1, h2, q _ G H (.refl e) (.bl _)⟩
theorem de_ne (ha : DE C a r d) (hb : DE C b r d') (h1 : SeqAt.shaped d = true := by rfl) (h2 : SeqAt.shaped d' = true := by rfl) : DE C (.Compare a [.NotEq] [b] pos) r (.bool (!PyData.eqv d d')) :=
  de_cmp (fun _ hX => neR hX) (nomark _) ha hb fun G H v u Q e r1 r2 q =>
    ⟨d, d', ((r1.mono e).dp (noDict_of_shaped (lay_of h1))), ((r2.mono e).dp (noDict_of_shaped (lay_of h2))), h1, h2, q _ G H (.refl e) (.bl _)⟩
theorem de_eqI {i j : Int} (ha : DE C a r (.int i)) (hb : DE C b r (.int j)) : DE C (.Compare a [.Eq] [b] pos) r (.bool (decide (i = j))) := by
  have h := de_eq (pos := pos) ha hb
  have e : PyData.eqv (.int i) (.int j) = decide (i = j) := by simp [PyData.eqv, Bool.beq_eq_decide_eq]
  rw [e] at h; exact h
theorem de_neI {i j : Int} (ha : DE C a r (.int i)) (hb : DE C b r (.int j)) : DE C (.Compare a [.NotEq] [b] pos) r (.bool (!decide (i = j))) := by
  have h := de_ne (pos := pos) ha hb
  have e : PyData.eqv (.int i) (.int j) = decide (i = j) := by simp [PyData.eqv, Bool.beq_eq_decide_eq]
  rw [e] at h; exact h
theorem de_neB {i j : Bool} (ha : DE C a r (.bool i)) (hb : DE C b r (.bool j)) : DE C (.Compare a [.NotEq] [b] pos) r (.bool (!decide (i = j))) := by
  have h := de_ne (pos := pos) ha hb
  have e : PyData.eqv (.bool i) (.bool j) = decide (i = j) := by simp [PyData.eqv, Bool.beq_eq_decide_eq]
  rw [e] at h; exact h
/-- the items of a list or tuple -/
def itemsD : PyData → Option (List PyData)
  | .list ds => some ds
  | .tuple ds => some ds
  | _ => none
def rInS (T : Tx) (neg : Bool) : R2 := fun x y H Q => ∃ d c ds, Rp T H x d ∧ Rp T H y c ∧ itemsD c = some ds ∧ SeqAt.shaped d = true ∧ SeqAt.shaped c = true ∧ Q (.bl (if neg = true then !(ds.any fun z => PyData.eqv z d) else ds.any fun z => PyData.eqv z d)) H
theorem un65 {k : Nat} {A : Around} (r : Room k A) : A.units + 65 < cLine := by have := r.un; omega
theorem inR {X : Cx} (hX : C.S X) : OpR X (compareOp .In) (rInS T false) := by
  have c := C.ok X hX
  intro pins s σ H x y v u Q I rx ry h
  obtain ⟨d, e, ds, hd, he, hi, sd, se, q⟩ := h
  have hd' := hd.dp (noDict_of_shaped (lay_of sd))
  have he' := he.dp (noDict_of_shaped (lay_of se))
  rw [← c.eK] at hd' he'
  obtain ⟨as, r1⟩ := Dp.reads I d x v hd' rx
  obtain ⟨bs, r2⟩ := Dp.reads I e y u he' ry
  cases e with
  | list es =>
    cases hi
    exact SeqAt.in_list_reads r2 r1 (lay_of se) (lay_of sd) (PyProof.Rows.room_in_shaped sd (un65 c.room)) ⟨.bl _, H, I, rfl, q⟩
  | tuple es =>
    cases hi
    exact SeqAt.in_tuple_reads r2 r1 (lay_of se) (lay_of sd) (PyProof.Rows.room_in_shaped sd (un65 c.room)) ⟨.bl _, H, I, rfl, q⟩
  | _ => cases hi
theorem notInR {X : Cx} (hX : C.S X) : OpR X (compareOp .NotIn) (rInS T true) := by
  have c := C.ok X hX
  intro pins s σ H x y v u Q I rx ry h
  obtain ⟨d, e, ds, hd, he, hi, sd, se, q⟩ := h
  have hd' := hd.dp (noDict_of_shaped (lay_of sd))
  have he' := he.dp (noDict_of_shaped (lay_of se))
  rw [← c.eK] at hd' he'
  obtain ⟨as, r1⟩ := Dp.reads I d x v hd' rx
  obtain ⟨bs, r2⟩ := Dp.reads I e y u he' ry
  cases e with
  | list es =>
    cases hi
    exact SeqAt.notIn_list_reads r2 r1 (lay_of se) (lay_of sd) (PyProof.Rows.room_in_shaped sd (un65 c.room)) ⟨.bl _, H, I, rfl, q⟩
  | tuple es =>
    cases hi
    exact SeqAt.notIn_tuple_reads r2 r1 (lay_of se) (lay_of sd) (PyProof.Rows.room_in_shaped sd (un65 c.room)) ⟨.bl _, H, I, rfl, q⟩
  | _ => cases hi
theorem de_in {ds : List PyData} (ha : DE C a r d) (hb : DE C b r d') (hi : itemsD d' = some ds) (h1 : SeqAt.shaped d = true := by rfl) (h2 : SeqAt.shaped d' = true := by rfl) (hm : behindInMarks .In b = false := by rfl) :
    DE C (.Compare a [.In] [b] pos) r (.bool (ds.any fun z => PyData.eqv z d)) :=
  de_cmp (fun _ hX => inR hX) hm ha hb fun G H v u Q e r1 r2 q => ⟨d, d', ds, r1.mono e, r2.mono e, hi, h1, h2, q _ G H (.refl e) (.bl _)⟩
theorem de_notIn {ds : List PyData} (ha : DE C a r d) (hb : DE C b r d') (hi : itemsD d' = some ds) (h1 : SeqAt.shaped d = true := by rfl) (h2 : SeqAt.shaped d' = true := by rfl) (hm : behindInMarks .NotIn b = false := by rfl) :
    DE C (.Compare a [.NotIn] [b] pos) r (.bool (!ds.any fun z => PyData.eqv z d)) :=
  de_cmp (fun _ hX => notInR hX) hm ha hb fun G H v u Q e r1 r2 q => ⟨d, d', ds, r1.mono e, r2.mono e, hi, h1, h2, q _ G H (.refl e) (.bl _)⟩
def isNoneD : PyData → Bool
  | .none => true
  | _ => false
theorem Rp.isNone {H : Hp} {v : V} (h : Rp T H v d) : decide (v = V.non) = isNoneD d := by cases h <;> simp [isNoneD]
theorem de_isN {j} (ha : DE C a r d) : DE C (.Compare a [.Is] [.Constant .none j p] pos) r (.bool (isNoneD d)) :=
  de_cmp (fun _ _ => op_isN) (nomark _) ha de_non fun G H v u Q e r1 r2 q => ⟨r2.non_inv, by rw [r1.isNone]; exact q _ G H (.refl e) (.bl _)⟩
theorem de_notN {j} (ha : DE C a r d) : DE C (.Compare a [.IsNot] [.Constant .none j p] pos) r (.bool (!isNoneD d)) :=
  de_cmp (fun _ _ => op_notN) (nomark _) ha de_non fun G H v u Q e r1 r2 q => ⟨r2.non_inv, by rw [r1.isNone]; exact q _ G H (.refl e) (.bl _)⟩
/-! a chain of two comparisons of ints -/
theorem de_le_lt {i j k : Int} (ha : DE C a r (.int i)) (hb : DE C b r (.int j)) (hc : DE C c r (.int k)) (hm : lastMarks [CmpOp.LtE, CmpOp.Lt] [b, c] = false := by rfl) : DE C (.Compare a [.LtE, .Lt] [b, c] pos) r (.bool (decide (i ≤ j) && decide (j < k))) := by
  obtain ⟨ta, pa, ea⟩ := ha
  obtain ⟨tb, pb, eb⟩ := hb
  obtain ⟨tc, pc, ec⟩ := hc
  refine ⟨_, fun X hX => pe_chain op_le op_lt (pa X hX) (pb X hX) (pc X hX) hm, fun σ G H Q e s q => ?_⟩
  refine ea σ G H _ e s fun v G1 H1 x1 r1 => ?_
  refine eb σ G1 H1 _ x1.gh (s.mono x1) fun u G2 H2 x2 r2 => ?_
  refine ⟨i, j, r1.int_inv, r2.int_inv, _, rfl, ?_⟩
  by_cases h : i ≤ j
  · rw [decide_eq_true h] at q ⊢
    rw [if_pos rfl]
    refine ec σ G2 H2 _ x2.gh (s.mono (x1.trans x2)) fun w G3 H3 x3 r3 => ?_
    exact ⟨j, k, r2.int_inv, r3.int_inv, q _ G3 H3 ((x1.trans x2).trans x3) (.bl _)⟩
  · rw [decide_eq_false h] at q ⊢
    rw [if_neg (by decide)]
    exact q _ G2 H2 (x1.trans x2) (.bl _)

/-! ### and, or, not: values and tests -/
theorem de_one {op} {b0 : PyData} (h : DE C a r b0) : DE C (.BoolOp op [a] pos) r b0 := let ⟨t, p, e⟩ := h; ⟨t, fun X hX => pe_one (p X hX), e⟩
theorem de_and {x y : Bool} (ha : DE C a r (.bool x)) (hb : x = true → DE C (.BoolOp .And (b :: es) pos) r (.bool y)) (hb' : ∃ t, ∀ X, C.S X → PE X (.BoolOp .And (b :: es) pos) t) : DE C (.BoolOp .And (a :: b :: es) pos) r (.bool (x && y)) := by
  obtain ⟨ta, pa, ea⟩ := ha
  cases x with
  | true =>
    obtain ⟨tb, pb, eb⟩ := hb rfl
    refine ⟨_, fun X hX => pe_and (pa X hX) (pb X hX), fun σ G H Q e s q => ?_⟩
    refine ea σ G H _ e s fun v G1 H1 x1 r1 => ⟨true, r1.bl_inv, ?_⟩
    rw [if_pos rfl]
    exact eb σ G1 H1 _ x1.gh (s.mono x1) fun u G2 H2 x2 r2 => q u G2 H2 (x1.trans x2) r2
  | false =>
    obtain ⟨tb, pb⟩ := hb'
    refine ⟨_, fun X hX => pe_and (pa X hX) (pb X hX), fun σ G H Q e s q => ?_⟩
    refine ea σ G H _ e s fun v G1 H1 x1 r1 => ⟨false, r1.bl_inv, ?_⟩
    rw [if_neg (by decide)]
    exact q _ G1 H1 x1 (.bl _)
theorem de_not {x : Bool} (ha : DE C a r (.bool x)) : DE C (.UnaryOp .Not a pos) r (.bool (!x)) := by
  obtain ⟨ta, pa, ea⟩ := ha
  refine ⟨_, fun X hX => pe_not (pa X hX), fun σ G H Q e s q => ?_⟩
  exact ea σ G H _ e s fun v G1 H1 x1 r1 => ⟨x, r1.bl_inv, q _ G1 H1 x1 (.bl _)⟩
/-- a value that is a bool, as a test -/
theorem dt_val {x : Bool} (h : DE C e r (.bool x)) (he : ∀ (env : Env) (whole : Sem Value), isTrue e env whole = (do let v ← whole; standAt e.pos; holding [v] (truthy v)) := by intro _ _; rfl) : DT C e r x := by
  obtain ⟨t, p, ev⟩ := h
  exact ⟨_, fun X hX => pt_val (p X hX) (he X.env), fun σ G H Q e s q => ev σ G H _ e s fun v G1 H1 x1 r1 => ⟨x, r1.bl_inv, q G1 H1 x1⟩⟩
theorem DW.t {x : Bool} (h : DW C e r x) : DT C e r x := let ⟨t, p, ev⟩ := h; ⟨t, fun X hX => (p X hX).pt, ev⟩
theorem dw_and1 {x : Bool} (h : DT C a r x) : DW C (.BoolOp .And [a] pos) r x := let ⟨t, p, ev⟩ := h; ⟨t, fun X hX => pw_and1 (p X hX), ev⟩
theorem dw_or1 {x : Bool} (h : DT C a r x) : DW C (.BoolOp .Or [a] pos) r x := let ⟨t, p, ev⟩ := h; ⟨t, fun X hX => pw_or1 (p X hX), ev⟩
/-- a test that is not asked: some reading -/
def HasT (C : CS T) (e : Expr) : Prop := ∃ t, ∀ X, C.S X → PT X e t
def HasW (C : CS T) (e : Expr) : Prop := ∃ t, ∀ X, C.S X → PW X e t
theorem pt_never {X : Cx} : PT X e (fun _ _ _ => False) := ⟨fun _ _ _ _ _ _ h => h.elim⟩
theorem pw_never {X : Cx} : PW X e (fun _ _ _ => False) := ⟨fun _ _ _ _ _ _ _ h => h.elim⟩
theorem pe_never {X : Cx} : PE X e (fun _ _ _ => False) := ⟨fun _ _ _ _ _ _ h => h.elim⟩
theorem dw_and {x y : Bool} (ha : DT C a r x) (hb : x = true → DW C (.BoolOp .And (b :: es) pos) r y) : DW C (.BoolOp .And (a :: b :: es) pos) r (x && y) := by
  obtain ⟨ta, pa, ea⟩ := ha
  cases x with
  | true =>
    obtain ⟨tb, pb, eb⟩ := hb rfl
    refine ⟨_, fun X hX => pw_and (pa X hX) (pb X hX), fun σ G H Q e s q => ?_⟩
    refine ea σ G H _ e s fun G1 H1 x1 => ?_
    show (if true = true then _ else _)
    rw [if_pos rfl]
    exact eb σ G1 H1 _ x1.gh (s.mono x1) fun G2 H2 x2 => q G2 H2 (x1.trans x2)
  | false =>
    refine ⟨_, fun X hX => pw_and (pa X hX) pw_never, fun σ G H Q e s q => ?_⟩
    refine ea σ G H _ e s fun G1 H1 x1 => ?_
    show (if false = true then _ else _)
    rw [if_neg (by decide)]
    exact q G1 H1 x1
theorem dw_or {x y : Bool} (ha : DT C a r x) (hb : x = false → DW C (.BoolOp .Or (b :: es) pos) r y) : DW C (.BoolOp .Or (a :: b :: es) pos) r (x || y) := by
  obtain ⟨ta, pa, ea⟩ := ha
  cases x with
  | false =>
    obtain ⟨tb, pb, eb⟩ := hb rfl
    refine ⟨_, fun X hX => pw_or (pa X hX) (pb X hX), fun σ G H Q e s q => ?_⟩
    refine ea σ G H _ e s fun G1 H1 x1 => ?_
    show (if false = true then _ else _)
    rw [if_neg (by decide)]
    exact eb σ G1 H1 _ x1.gh (s.mono x1) fun G2 H2 x2 => q G2 H2 (x1.trans x2)
  | true =>
    refine ⟨_, fun X hX => pw_or (pa X hX) pw_never, fun σ G H Q e s q => ?_⟩
    refine ea σ G H _ e s fun G1 H1 x1 => ?_
    show (if true = true then _ else _)
    rw [if_pos rfl]
    exact q G1 H1 x1
theorem dt_not {x : Bool} (ha : DT C a r x) : DT C (.UnaryOp .Not a pos) r (!x) := by
  obtain ⟨ta, pa, ea⟩ := ha
  exact ⟨_, fun X hX => pt_not (pa X hX), fun σ G H Q e s q => ea σ G H _ e s fun G1 H1 x1 => q G1 H1 x1⟩
/-- values by and, where the rest may stay unasked -/
theorem de_andV {x y : Bool} (ha : DE C a r (.bool x)) (hb : x = true → DE C (.BoolOp .And (b :: es) pos) r (.bool y)) : DE C (.BoolOp .And (a :: b :: es) pos) r (.bool (x && y)) := by
  cases x with
  | true => exact de_and ha hb (let ⟨t, p, _⟩ := hb rfl; ⟨t, p⟩)
  | false => exact de_and ha hb ⟨_, fun X _ => pe_never⟩
/-- truth of a list -/
theorem dt_list {ds : List PyData} (h : DE C e r (.list ds)) (he : ∀ (env : Env) (whole : Sem Value), isTrue e env whole = (do let v ← whole; standAt e.pos; holding [v] (truthy v)) := by intro _ _; rfl) : DT C e r (!ds.isEmpty) := by
  obtain ⟨t, p, ev⟩ := h
  refine ⟨fun σ H Q => t σ H fun x H' => ∃ k, TruV T.K x H' k ∧ Q k H', fun X hX => ?_, fun σ G H Q e s q => ev σ G H _ e s fun v G1 H1 x1 r1 => ?_⟩
  · have c := C.ok X hX
    have h := pt_truth (p X hX) (he X.env)
    rw [c.eK] at h
    exact h
  · obtain ⟨a, xs, rfl, h1, h2⟩ := r1.lst_inv
    refine ⟨_, .inl ⟨xs, SqL.of (x1.gh _ _ h1), rfl⟩, ?_⟩
    have e1 : xs.isEmpty = ds.isEmpty := by
      cases h2 <;> rfl
    rw [e1]; exact q G1 H1 x1
theorem de_ifT (hc : DT C c r true) (ha : DE C a r d) : DE C (.IfExp c a b pos) r d := by
  obtain ⟨tc, pc, ec⟩ := hc
  obtain ⟨ta, pa, ea⟩ := ha
  refine ⟨_, fun X hX => pe_ifExp (pc X hX) (pa X hX) pe_never, fun σ G H Q e s q => ?_⟩
  refine ec σ G H _ e s fun G1 H1 x1 => ?_
  show (if true = true then _ else _)
  rw [if_pos rfl]
  exact ea σ G1 H1 _ x1.gh (s.mono x1) fun u G2 H2 x2 r2 => q u G2 H2 (x1.trans x2) r2
theorem de_ifF (hc : DT C c r false) (hb : DE C b r d) : DE C (.IfExp c a b pos) r d := by
  obtain ⟨tc, pc, ec⟩ := hc
  obtain ⟨ta, pa, ea⟩ := hb
  refine ⟨_, fun X hX => pe_ifExp (pc X hX) pe_never (pa X hX), fun σ G H Q e s q => ?_⟩
  refine ec σ G H _ e s fun G1 H1 x1 => ?_
  show (if false = true then _ else _)
  rw [if_neg (by decide)]
  exact ea σ G1 H1 _ x1.gh (s.mono x1) fun u G2 H2 x2 r2 => q u G2 H2 (x1.trans x2) r2
theorem de_if {x : Bool} (hc : DT C c r x) (ha : x = true → DE C a r d) (hb : x = false → DE C b r d) : DE C (.IfExp c a b pos) r d := by
  cases x with
  | true => exact de_ifT hc (ha rfl)
  | false => exact de_ifF hc (hb rfl)
/-- owned lists read: where what comes is no object -/
theorem de_view (h : DE C e (r.map view) d) (f : flatD d = true := by rfl) : DE C e r d := by
  obtain ⟨t, p, ev⟩ := h
  exact ⟨t, p, fun σ G H Q e s q => ev σ H H _ (Same.refl _) (s.view e) fun v G' H' x1 r1 => q v G H' ⟨Same.refl _, x1.h, e.trans x1.h, fun _ _ _ h => h⟩ (r1.flat f G)⟩
theorem dt_view {x : Bool} (h : DT C e (r.map view) x) : DT C e r x := by
  obtain ⟨t, p, ev⟩ := h
  exact ⟨t, p, fun σ G H Q e s q => ev σ H H _ (Same.refl _) (s.view e) fun G' H' x1 => q G H' ⟨Same.refl _, x1.h, e.trans x1.h, fun _ _ _ h => h⟩⟩
end
end DL

/-! DL, part D: argument lists, displays, subscripts, slices, calls of built-ins and of defs. -/
namespace DL
open PySem PySem.Spec L2
open PyProof.Rows hiding St
theorem small {n : Nat} (h : n ≤ 1000000) : n ≤ sizeLine := Nat.le_trans h (by decide)
theorem smallLt {n : Nat} (h : n ≤ 1000000) : n < sizeLine := Nat.lt_of_le_of_lt h (by decide)
section
variable {T : Tx} {C : CS T} {r : Sls} {a b c e : Expr} {es : List Expr} {pos p p2 : Pos} {d d' f : PyData} {ds ds' : List PyData}

/-! ### argument lists and displays -/
theorem das_nil : DAs C [] r [] := ⟨_, fun X hX => pa_nil, fun σ G H Q e s q => q [] G H (.refl e) .nil⟩
theorem das_cons (h : DE C e r d) (t : DAs C es r ds) (hs : ∀ env : Env, starEach (e :: es) env = (false, eval e env) :: starEach es env := by intro _; rfl) : DAs C (e :: es) r (d :: ds) := by
  obtain ⟨te, pe, ee⟩ := h
  obtain ⟨ta, pa, ea⟩ := t
  refine ⟨_, fun X hX => pa_cons (pe X hX) (pa X hX) (hs X.env), fun σ G H Q e s q => ?_⟩
  refine ee σ G H _ e s fun v G1 H1 x1 r1 => ?_
  exact ea σ G1 H1 _ x1.gh (s.mono x1) fun vs G2 H2 x2 r2 => q _ G2 H2 (x1.trans x2) (.cons (r1.mono x2.g) r2)
theorem Rp.items {H : Hp} {v : V} (h : Rp T H v d) (hi : itemsD d = some ds) : ∃ p xs, v = .ref p ∧ (SqT T.K H p xs ∨ SqL T.K H p xs) ∧ RpAll T H xs ds := by
  cases h with
  | lst h1 h2 => cases hi; exact ⟨_, _, rfl, .inr (SqL.of h1), h2⟩
  | tup h1 h2 => cases hi; exact ⟨_, _, rfl, .inl h1, h2⟩
  | _ => cases hi
theorem das_star (h : DE C e r d) (hi : itemsD d = some ds) (t : DAs C es r ds') (hs : ∀ env : Env, starEach (.Starred e p :: es) env = (true, eval e env) :: starEach es env := by intro _; rfl) : DAs C (.Starred e p :: es) r (ds ++ ds') := by
  obtain ⟨te, pe, ee⟩ := h
  obtain ⟨ta, pa, ea⟩ := t
  refine ⟨StX.tStar T.K te ta, fun X hX => ?_, fun σ G H Q e s q => ?_⟩
  · have h := StX.pa_star (pe X hX) (pa X hX) (hs X.env)
    rw [(C.ok X hX).eK] at h
    exact h
  · refine ee σ G H _ e s fun v G1 H1 x1 r1 => ?_
    obtain ⟨p, xs, rfl, h1, h2⟩ := (r1.mono x1.gh).items hi
    obtain ⟨p', xs', e2, h1', h2'⟩ := r1.items hi
    cases e2
    refine ⟨_, xs', rfl, ?_, ?_⟩
    · rcases h1' with h | h
      · exact .inl (same_t x1.gh h)
      · exact .inr (x1.gh.seq h)
    · exact ea σ G1 H1 _ x1.gh (s.mono x1) fun vs G2 H2 x2 r2 => q _ G2 H2 (x1.trans x2) ((h2'.mono x2.g).append r2)
theorem de_tup {k : Nat} (h : DAs C es r ds) (hl : ds.length ≤ 1000000 := by simp) : DE C (.Tuple es k pos) r (.tuple ds) := by
  obtain ⟨t, pa, ea⟩ := h
  refine ⟨_, fun X hX => pe_tup (pa X hX), fun σ G H Q e s q => ?_⟩
  refine ea σ G H _ e s fun vs G1 H1 x1 r1 => ⟨by rw [r1.length]; exact small hl, fun p hp => ?_⟩
  exact q _ _ _ (x1.trans (.new x1.gh hp)) (.tup (SqT.of upd_same) (r1.mono (same_new (x1.gh.free hp))))
theorem dn_lst (h : DAs C es r ds) (hl : ds.length ≤ 1000000 := by simp) : DN C (.List es pos) r ds := by
  obtain ⟨t, pa, ea⟩ := h
  refine ⟨_, fun X hX => pe_lst (pa X hX), fun σ G H Q e s q => ?_⟩
  refine ea σ G H _ e s fun vs G1 H1 x1 r1 => ⟨by rw [r1.length]; exact small hl, fun p hp => ?_⟩
  exact q p vs G1 _ (x1.h.free hp) (x1.trans (.hid x1.gh hp)) (x1.gh.free hp) upd_same r1

/-! ### subscripts and slices -/
theorem RpAll.atI {H : Hp} {xs : List V} {i : Int} (h : RpAll T H xs ds) (hx : L2.atI ds i = some d) : ∃ v, L2.atI xs i = some v ∧ Rp T H v d := by
  unfold L2.atI at hx ⊢
  rw [h.length]
  cases e : ixN ds.length i with
  | none => rw [e] at hx; cases hx
  | some j =>
    rw [e] at hx
    obtain ⟨v, h1, h2⟩ := h.get hx
    exact ⟨v, h1, h2⟩
theorem de_ix {i : Int} (ha : DE C a r d') (hi : itemsD d' = some ds) (hb : DE C b r (.int i)) (hx : L2.atI ds i = some d) (hs : PlainIx b := by intro _ _; rfl) : DE C (.Subscript a b pos) r d := by
  obtain ⟨ta, pa, ea⟩ := ha
  obtain ⟨tb, pb, eb⟩ := hb
  refine ⟨_, fun X hX => pe_ix ((by have c := C.ok X hX; have h := ix_seq (X := X); rw [c.eK] at h; exact h) : IxR X (rIx T.K)) (pa X hX) (pb X hX) hs, fun σ G H Q e s q => ?_⟩
  refine ea σ G H _ e s fun v G1 H1 x1 r1 => ?_
  refine eb σ G1 H1 _ x1.gh (s.mono x1) fun u G2 H2 x2 r2 => ?_
  have r1' := r1.mono x2.g
  obtain ⟨p, xs, rfl, h1, h2⟩ := r1'.items hi
  obtain ⟨z, h3, h4⟩ := h2.atI hx
  rcases h1 with h1 | h1
  · exact .inr (.inl ⟨p, xs, i, z, rfl, r2.int_inv, same_t x2.gh h1, h3, q z G2 H2 (x1.trans x2) h4⟩)
  · exact .inl ⟨p, xs, i, z, rfl, r2.int_inv, x2.gh.seq h1, h3, q z G2 H2 (x1.trans x2) h4⟩
theorem de_ixL {i : Int} (ha : DE C a r (.list ds)) (hb : DE C b r (.int i)) (hx : L2.atI ds i = some d) (hs : PlainIx b := by intro _ _; rfl) : DE C (.Subscript a b pos) r d := de_ix ha rfl hb hx hs
theorem de_ixT {i : Int} (ha : DE C a r (.tuple ds)) (hb : DE C b r (.int i)) (hx : L2.atI ds i = some d) (hs : PlainIx b := by intro _ _; rfl) : DE C (.Subscript a b pos) r d := de_ix ha rfl hb hx hs
theorem at_nat {α : Type} {xs : List α} {i : Int} {v : α} (h0 : 0 ≤ i) (h : xs[i.toNat]? = some v) : L2.atI xs i = some v := by
  have e : i = ((i.toNat : Nat) : Int) := by omega
  rw [e]; exact atI_nat h
/-- an optional part of a slice -/
def DPart (C : CS T) (e : Option Expr) (r : Sls) (o : Option Int) : Prop := ∃ t, (∀ X, C.S X → PO X e t) ∧ ∀ (σ : St) (G H : Hp) (Q : Option Int → Hp → Prop), Same G H → Sl T r σ G H → (∀ G' H', Ext G H G' H' → Q o H') → t σ H Q
theorem dp_none : DPart C none r none := ⟨_, fun X hX => po_none, fun σ G H Q e s q => q G H (.refl e)⟩
theorem dp_some {i : Int} (h : DE C e r (.int i)) : DPart C (some e) r (some i) := by
  obtain ⟨t, p, ev⟩ := h
  exact ⟨_, fun X hX => po_some (p X hX), fun σ G H Q e s q => ev σ G H _ e s fun v G1 H1 x1 r1 => ⟨i, r1.int_inv, q G1 H1 x1⟩⟩
def cutD {α : Type} (xs : List α) (lo hi : Option Int) : List α := (xs.drop (HT.sIx xs.length 0 lo)).take (HT.sIx xs.length xs.length hi - HT.sIx xs.length 0 lo)
theorem RpAll.cut {H : Hp} {xs : List V} {lo hi : Option Int} (h : RpAll T H xs ds) : RpAll T H (cutV xs lo hi) (cutD ds lo hi) := by
  unfold cutV cutD
  rw [h.length]
  exact (h.drop _).take _
theorem dn_slice {lo hi : Option Expr} {ol oh : Option Int} (ha : DE C a r (.list ds)) (hl : DPart C lo r ol) (hh : DPart C hi r oh) : DN C (.Subscript a (.Slice lo hi none p2) pos) r (cutD ds ol oh) := by
  obtain ⟨ta, pa, ea⟩ := ha
  obtain ⟨tl, pl, el⟩ := hl
  obtain ⟨th, ph, eh⟩ := hh
  refine ⟨_, fun X hX => pe_slice ((by have c := C.ok X hX; have h := sl_list (X := X); rw [c.eK] at h; exact h) : SlR X (rSlL T.K)) (pa X hX) (pl X hX) (ph X hX), fun σ G H Q e s q => ?_⟩
  refine ea σ G H _ e s fun v G1 H1 x1 r1 => ?_
  refine el σ G1 H1 _ x1.gh (s.mono x1) fun G2 H2 x2 => ?_
  refine eh σ G2 H2 _ x2.gh (s.mono (x1.trans x2)) fun G3 H3 x3 => ?_
  obtain ⟨p, xs, rfl, h1, h2⟩ := (r1.mono (x2.trans x3).g).lst_inv
  refine ⟨p, xs, rfl, SqL.of (x3.gh _ _ h1), fun o ho => ?_⟩
  have x := (x1.trans x2).trans x3
  exact q o _ G3 _ (x.h.free ho) (x.trans (.hid x3.gh ho)) (x3.gh.free ho) upd_same h2.cut
theorem de_sliceT {lo hi : Option Expr} {ol oh : Option Int} (ha : DE C a r (.tuple ds)) (hl : DPart C lo r ol) (hh : DPart C hi r oh) (hw : ¬ (HT.sIx ds.length 0 ol = 0 ∧ HT.sIx ds.length ds.length oh = ds.length)) : DE C (.Subscript a (.Slice lo hi none p2) pos) r (.tuple (cutD ds ol oh)) := by
  obtain ⟨ta, pa, ea⟩ := ha
  obtain ⟨tl, pl, el⟩ := hl
  obtain ⟨th, ph, eh⟩ := hh
  refine ⟨_, fun X hX => pe_slice ((by have c := C.ok X hX; have h := sl_tup (X := X); rw [c.eK] at h; exact h) : SlR X (rSlT T.K)) (pa X hX) (pl X hX) (ph X hX), fun σ G H Q e s q => ?_⟩
  refine ea σ G H _ e s fun v G1 H1 x1 r1 => ?_
  refine el σ G1 H1 _ x1.gh (s.mono x1) fun G2 H2 x2 => ?_
  refine eh σ G2 H2 _ x2.gh (s.mono (x1.trans x2)) fun G3 H3 x3 => ?_
  obtain ⟨p, xs, rfl, h1, h2⟩ := (r1.mono (x2.trans x3).g).tup_inv
  refine ⟨p, xs, rfl, same_t x3.gh h1, by rw [h2.length]; exact hw, fun o ho => ?_⟩
  have x := (x1.trans x2).trans x3
  exact q _ _ _ (x.trans (.new x3.gh ho)) (.tup (SqT.of upd_same) (h2.cut.mono (same_new (x3.gh.free ho))))
theorem dn_rev {k : Nat} {p1 p3 : Pos} (ha : DE C a r (.list ds)) : DN C (.Subscript a (.Slice none none (some (.UnaryOp .USub (.Constant (.int 1) k p1) p2)) p3) pos) r ds.reverse := by
  obtain ⟨ta, pa, ea⟩ := ha
  refine ⟨tRevL T.K ta, fun X hX => ?_, fun σ G H Q e s q => ?_⟩
  · have h := pe_revL (k := k) (p1 := p1) (p2 := p2) (p3 := p3) (pos := pos) (pa X hX)
    rw [(C.ok X hX).eK] at h
    exact h
  · refine ea σ G H _ e s fun v G1 H1 x1 r1 => ?_
    obtain ⟨p, xs, rfl, h1, h2⟩ := r1.lst_inv
    refine ⟨p, xs, rfl, SqL.of (x1.gh _ _ h1), fun o ho => ?_⟩
    exact q o _ G1 _ (x1.h.free ho) (x1.trans (.hid x1.gh ho)) (x1.gh.free ho) upd_same h2.reverse
theorem dn_cat (ha : DE C a r (.list ds)) (hb : DE C b r (.list ds')) (hl : ds.length + ds'.length ≤ 1000000) : DN C (.BinOp a .Add b pos) r (ds ++ ds') := by
  obtain ⟨ta, pa, ea⟩ := ha
  obtain ⟨tb, pb, eb⟩ := hb
  refine ⟨_, fun X hX => pe_op op_cat (pa X hX) (pb X hX), fun σ G H Q e s q => ?_⟩
  refine ea σ G H _ e s fun v G1 H1 x1 r1 => ?_
  refine eb σ G1 H1 _ x1.gh (s.mono x1) fun u G2 H2 x2 r2 => ?_
  obtain ⟨p, xs, rfl, h1, h2⟩ := (r1.mono x2.g).lst_inv
  obtain ⟨p', xs', rfl, h1', h2'⟩ := r2.lst_inv
  have x := x1.trans x2
  refine ⟨p, p', xs, xs', rfl, rfl, x2.gh _ _ h1, x2.gh _ _ h1', by rw [h2.length, h2'.length]; exact small hl, fun o ho => ?_⟩
  exact q o _ G2 _ (x.h.free ho) (x.trans (.hid x2.gh ho)) (x2.gh.free ho) upd_same (h2.append h2')
theorem dn_rep {n : Int} (ha : DE C a r (.list ds)) (hb : DE C b r (.int n)) (h1 : -(2 ^ 63) ≤ n) (h2 : n < 2 ^ 63) (hl : ds.length * n.toNat ≤ 1000000) : DN C (.BinOp a .Mult b pos) r (List.replicate n.toNat ds).flatten := by
  obtain ⟨ta, pa, ea⟩ := ha
  obtain ⟨tb, pb, eb⟩ := hb
  refine ⟨_, fun X hX => pe_op op_rep (pa X hX) (pb X hX), fun σ G H Q e s q => ?_⟩
  refine ea σ G H _ e s fun v G1 H1 x1 r1 => ?_
  refine eb σ G1 H1 _ x1.gh (s.mono x1) fun u G2 H2 x2 r2 => ?_
  obtain ⟨p, xs, rfl, h3, h4⟩ := (r1.mono x2.g).lst_inv
  have x := x1.trans x2
  refine ⟨p, n, xs, rfl, r2.int_inv, x2.gh _ _ h3, h1, h2, by rw [h4.length]; exact small hl, fun o ho => ?_⟩
  exact q o _ G2 _ (x.h.free ho) (x.trans (.hid x2.gh ho)) (x2.gh.free ho) upd_same (h4.rep _)
theorem de_catT (ha : DE C a r (.tuple ds)) (hb : DE C b r (.tuple ds')) (hn : ds ≠ []) (hn' : ds' ≠ []) (hl : ds.length + ds'.length ≤ 1000000) : DE C (.BinOp a .Add b pos) r (.tuple (ds ++ ds')) := by
  refine de_op (rr := rCatT T.K) (fun X hX => ?_) ha hb fun G H v u Q e r1 r2 q => ?_
  · have h := op_catT (X := X)
    rw [(C.ok X hX).eK] at h
    exact h
  · obtain ⟨p, xs, rfl, h1, h2⟩ := r1.tup_inv
    obtain ⟨p', xs', rfl, h1', h2'⟩ := r2.tup_inv
    refine ⟨p, p', xs, xs', rfl, rfl, same_t e h1, same_t e h1', fun z => hn ?_, by rw [h2.length, h2'.length]; exact small hl, fun z => absurd ?_ hn', fun _ o ho => ?_⟩
    · subst z; cases h2; rfl
    · subst z; cases h2'; rfl
    · exact q _ _ _ (.new e ho) (.tup (SqT.of upd_same) ((h2.append h2').mono (same_new (e.free ho))))

/-! ### calls of built-ins -/
theorem de_callB {id : String} {x : Str} {rr : List V → Hp → VK → Prop} (ho : ∀ X, C.S X → CallR X (.builtin id) rr) (hm : T.mg x = none) (hv : bootBuiltins x = some (.builtin id)) (ha : DAs C (e :: es) r ds)
    (h : ∀ G H vs Q, Same G H → RpAll T G vs ds → (∀ z G' H', Ext G H G' H' → Rp T G' z f → Q z H') → rr vs H Q) (hg : C.tab.lookup x = some .globalImplicit := by rfl)
    (hn : x ≠ "__name__" := by decide) (hdb : (x == ("__debug__" : Str)) = false := by decide)
    (he : ∀ env : Env, starEach (e :: es) env = (false, eval e env) :: starEach es env := by intro _; rfl) (hpl : ∀ env : Env, (backTo pos (starEach es env)).any (·.1) = false := by intro _; rfl) : DE C (.Call (.Name x p) (e :: es) [] pos) r f := by
  obtain ⟨ta, pa, ea⟩ := ha
  refine ⟨_, fun X hX => pe_callB (ho X hX) (gl_of (C.ok X hX).etab hg) (by rw [(C.ok X hX).emg]; exact hm) hv (pa X hX) hn hdb (he X.env) (hpl X.env), fun σ G H Q e s q => ?_⟩
  exact ea σ G H _ e s fun vs G1 H1 x1 r1 => h G1 H1 vs Q x1.gh r1 fun z G' H' x2 r2 => q z G' H' (x1.trans x2) r2
theorem de_callTy {id : String} {x : Str} {rr : List V → Hp → VK → Prop} (ho : ∀ X, C.S X → CallR X (.type id) rr) (hm : T.mg x = none) (hv : bootBuiltins x = some (.type id)) (ha : DAs C (e :: es) r ds)
    (h : ∀ G H vs Q, Same G H → RpAll T G vs ds → (∀ z G' H', Ext G H G' H' → Rp T G' z f → Q z H') → rr vs H Q) (hg : C.tab.lookup x = some .globalImplicit := by rfl)
    (hn : x ≠ "__name__" := by decide) (hdb : (x == ("__debug__" : Str)) = false := by decide)
    (he : ∀ env : Env, starEach (e :: es) env = (false, eval e env) :: starEach es env := by intro _; rfl) (hpl : ∀ env : Env, (backTo pos (starEach es env)).any (·.1) = false := by intro _; rfl) : DE C (.Call (.Name x p) (e :: es) [] pos) r f := by
  obtain ⟨ta, pa, ea⟩ := ha
  refine ⟨_, fun X hX => pe_callTy (ho X hX) (gl_of (C.ok X hX).etab hg) (by rw [(C.ok X hX).emg]; exact hm) hv (pa X hX) hn hdb (he X.env) (hpl X.env), fun σ G H Q e s q => ?_⟩
  exact ea σ G H _ e s fun vs G1 H1 x1 r1 => h G1 H1 vs Q x1.gh r1 fun z G' H' x2 r2 => q z G' H' (x1.trans x2) r2
/-- the names that the program takes from the built-ins -/
structure Blt (T : Tx) : Prop where
  len : T.mg "len" = none
  range : T.mg "range" = none
  zip : T.mg "zip" = none
  enumerate : T.mg "enumerate" = none
  sum : T.mg "sum" = none
  max : T.mg "max" = none
  min : T.mg "min" = none
  any : T.mg "any" = none
  sorted : T.mg "sorted" = none
  tuple : T.mg "tuple" = none
  list : T.mg "list" = none
  int : T.mg "int" = none
theorem RpAll.one_inv {H : Hp} {vs : List V} (h : RpAll T H vs [d]) : ∃ v, vs = [v] ∧ Rp T H v d := by
  cases h with
  | cons a b => cases b; exact ⟨_, rfl, a⟩
theorem RpAll.two_inv {H : Hp} {vs : List V} (h : RpAll T H vs [d, d']) : ∃ v u, vs = [v, u] ∧ Rp T H v d ∧ Rp T H u d' := by
  cases h with
  | cons a b =>
    obtain ⟨u, rfl, h2⟩ := b.one_inv
    exact ⟨_, _, rfl, a, h2⟩
section
variable (B : Blt T)
include B
theorem de_len (ha : DE C e r (.list ds)) (hg : C.tab.lookup ("len" : Str) = some .globalImplicit := by rfl) (hs : ∀ env : Env, starEach [e] env = (false, eval e env) :: starEach [] env := by intro _; rfl) : DE C (.Call (.Name "len" p) [e] [] pos) r (.int ds.length) := by
  refine de_callB (rr := fun xs H Q => ∃ p ys, xs = [.ref p] ∧ (SqL T.K H p ys ∨ SqT T.K H p ys) ∧ Q (.int ys.length) H) (fun X hX => ?_) B.len PySem.boot_len (das_cons ha das_nil hs) (fun G H vs Q e h q => ?_) hg (by decide) (by decide) hs (fun _ => rfl)
  · have h := call_len_seq (X := X)
    rw [(C.ok X hX).eK] at h
    exact h
  · obtain ⟨v, rfl, h1⟩ := h.one_inv
    obtain ⟨p, xs, rfl, h2, h3⟩ := h1.lst_inv
    refine ⟨p, xs, rfl, .inl (SqL.of (e _ _ h2)), ?_⟩
    · rw [h3.length]; exact q _ G H (.refl e) (.int _)
theorem de_max2 {i j : Int} (ha : DE C a r (.int i)) (hb : DE C b r (.int j)) (hg : C.tab.lookup ("max" : Str) = some .globalImplicit := by rfl) (hs : ∀ env : Env, starEach [a, b] env = (false, eval a env) :: starEach [b] env := by intro _; rfl) (hs2 : ∀ env : Env, starEach [b] env = (false, eval b env) :: starEach [] env := by intro _; rfl)
    (hpl : ∀ env : Env, (backTo pos (starEach [b] env)).any (·.1) = false := by intro _; rfl) : DE C (.Call (.Name "max" p) [a, b] [] pos) r (.int (max i j)) := by
  refine de_callB (fun X hX => call_max2 (C.ok X hX).calm) B.max (by decide +kernel) (das_cons ha (das_cons hb das_nil hs2) hs) (fun G H vs Q e h q => ?_) hg (by decide) (by decide) hs hpl
  obtain ⟨v, u, rfl, h1, h2⟩ := h.two_inv
  refine ⟨i, j, by rw [h1.int_inv, h2.int_inv], ?_⟩
  have e1 : (if j > i then j else i) = max i j := by omega
  rw [e1]; exact q _ G H (.refl e) (.int _)
theorem de_min2 {i j : Int} (ha : DE C a r (.int i)) (hb : DE C b r (.int j)) (hg : C.tab.lookup ("min" : Str) = some .globalImplicit := by rfl) (hs : ∀ env : Env, starEach [a, b] env = (false, eval a env) :: starEach [b] env := by intro _; rfl) (hs2 : ∀ env : Env, starEach [b] env = (false, eval b env) :: starEach [] env := by intro _; rfl)
    (hpl : ∀ env : Env, (backTo pos (starEach [b] env)).any (·.1) = false := by intro _; rfl) : DE C (.Call (.Name "min" p) [a, b] [] pos) r (.int (min i j)) := by
  refine de_callB (fun X hX => call_min2 (C.ok X hX).calm) B.min (by decide +kernel) (das_cons ha (das_cons hb das_nil hs2) hs) (fun G H vs Q e h q => ?_) hg (by decide) (by decide) hs hpl
  obtain ⟨v, u, rfl, h1, h2⟩ := h.two_inv
  refine ⟨i, j, by rw [h1.int_inv, h2.int_inv], ?_⟩
  have e1 : (if j < i then j else i) = min i j := by omega
  rw [e1]; exact q _ G H (.refl e) (.int _)
/-- m is the greatest of ns -/
theorem de_maxL {ns : List Int} {m : Int} (ha : DE C a r (.list (ns.map PyData.int))) (hm : m ∈ ns) (hle : ∀ y ∈ ns, y ≤ m) (hg : C.tab.lookup ("max" : Str) = some .globalImplicit := by rfl) (hs : ∀ env : Env, starEach [a] env = (false, eval a env) :: starEach [] env := by intro _; rfl) : DE C (.Call (.Name "max" p) [a] [] pos) r (.int m) := by
  refine de_callB (id := "max") (rr := rMax T.K) (fun X hX => ?_) B.max (by decide +kernel) (das_cons ha das_nil hs) (fun G H vs Q e h q => ?_) hg (by decide) (by decide) hs (fun _ => rfl)
  · have h := cr_max (C.ok X hX).calm
    rw [(C.ok X hX).eK] at h
    exact h
  · obtain ⟨v, rfl, h1⟩ := h.one_inv
    obtain ⟨p, xs, rfl, h2, h3⟩ := h1.lst_inv
    refine ⟨p, ns, rfl, SqL.of (by rw [← h3.ints]; exact e _ _ h2), List.length_pos_of_mem hm, fun m' h4 h5 => ?_⟩
    have e1 : m' = m := Int.le_antisymm (hle m' h4) (h5 m hm)
    rw [e1]; exact q _ G H (.refl e) (.int _)
theorem de_minL {ns : List Int} {m : Int} (ha : DE C a r (.list (ns.map PyData.int))) (hm : m ∈ ns) (hle : ∀ y ∈ ns, m ≤ y) (hg : C.tab.lookup ("min" : Str) = some .globalImplicit := by rfl) (hs : ∀ env : Env, starEach [a] env = (false, eval a env) :: starEach [] env := by intro _; rfl) : DE C (.Call (.Name "min" p) [a] [] pos) r (.int m) := by
  refine de_callB (id := "min") (rr := rMin T.K) (fun X hX => ?_) B.min (by decide +kernel) (das_cons ha das_nil hs) (fun G H vs Q e h q => ?_) hg (by decide) (by decide) hs (fun _ => rfl)
  · have h := cr_min (C.ok X hX).calm
    rw [(C.ok X hX).eK] at h
    exact h
  · obtain ⟨v, rfl, h1⟩ := h.one_inv
    obtain ⟨p, xs, rfl, h2, h3⟩ := h1.lst_inv
    refine ⟨p, ns, rfl, SqL.of (by rw [← h3.ints]; exact e _ _ h2), List.length_pos_of_mem hm, fun m' h4 h5 => ?_⟩
    have e1 : m' = m := Int.le_antisymm (h5 m hm) (hle m' h4)
    rw [e1]; exact q _ G H (.refl e) (.int _)
theorem de_sum {ns : List Int} (ha : DE C a r (.list (ns.map PyData.int))) (hg : C.tab.lookup ("sum" : Str) = some .globalImplicit := by rfl) (hs : ∀ env : Env, starEach [a] env = (false, eval a env) :: starEach [] env := by intro _; rfl) : DE C (.Call (.Name "sum" p) [a] [] pos) r (.int ns.sum) := by
  refine de_callB (id := "sum") (rr := rSum T.K) (fun X hX => ?_) B.sum (by decide +kernel) (das_cons ha das_nil hs) (fun G H vs Q e h q => ?_) hg (by decide) (by decide) hs (fun _ => rfl)
  · have h := cr_sum (C.ok X hX).calm
    rw [(C.ok X hX).eK] at h
    exact h
  · obtain ⟨v, rfl, h1⟩ := h.one_inv
    obtain ⟨p, xs, rfl, h2, h3⟩ := h1.lst_inv
    exact ⟨p, ns, rfl, SqL.of (by rw [← h3.ints]; exact e _ _ h2), q _ G H (.refl e) (.int _)⟩
theorem de_any {bs : List Bool} (ha : DE C a r (.list (bs.map PyData.bool))) (hg : C.tab.lookup ("any" : Str) = some .globalImplicit := by rfl) (hs : ∀ env : Env, starEach [a] env = (false, eval a env) :: starEach [] env := by intro _; rfl) : DE C (.Call (.Name "any" p) [a] [] pos) r (.bool (bs.any id)) := by
  refine de_callB (id := "any") (rr := rAny T.K) (fun X hX => ?_) B.any (by decide +kernel) (das_cons ha das_nil hs) (fun G H vs Q e h q => ?_) hg (by decide) (by decide) hs (fun _ => rfl)
  · have h := cr_any (C.ok X hX).calm
    rw [(C.ok X hX).eK] at h
    exact h
  · obtain ⟨v, rfl, h1⟩ := h.one_inv
    obtain ⟨p, xs, rfl, h2, h3⟩ := h1.lst_inv
    exact ⟨p, bs, rfl, SqL.of (by rw [← h3.bls]; exact e _ _ h2), q _ G H (.refl e) (.bl _)⟩
theorem de_intI {i : Int} (ha : DE C a r (.int i)) (hg : C.tab.lookup ("int" : Str) = some .globalImplicit := by rfl) (hs : ∀ env : Env, starEach [a] env = (false, eval a env) :: starEach [] env := by intro _; rfl) : DE C (.Call (.Name "int" p) [a] [] pos) r (.int i) := by
  refine de_callTy (fun X hX => call_int1) B.int PyProof.Rows.boot_int (das_cons ha das_nil hs) (fun G H vs Q e h q => ?_) hg (by decide) (by decide) hs (fun _ => rfl)
  obtain ⟨v, rfl, h1⟩ := h.one_inv
  exact .inl ⟨i, by rw [h1.int_inv], q _ G H (.refl e) (.int _)⟩
theorem de_intB {i : Bool} (ha : DE C a r (.bool i)) (hg : C.tab.lookup ("int" : Str) = some .globalImplicit := by rfl) (hs : ∀ env : Env, starEach [a] env = (false, eval a env) :: starEach [] env := by intro _; rfl) : DE C (.Call (.Name "int" p) [a] [] pos) r (.int (if i then 1 else 0)) := by
  refine de_callTy (fun X hX => call_int1) B.int PyProof.Rows.boot_int (das_cons ha das_nil hs) (fun G H vs Q e h q => ?_) hg (by decide) (by decide) hs (fun _ => rfl)
  obtain ⟨v, rfl, h1⟩ := h.one_inv
  exact .inr ⟨i, by rw [h1.bl_inv], q _ G H (.refl e) (.int _)⟩
/-- tuple(a list) -/
theorem de_tupleL (ha : DE C a r (.list ds)) (hg : C.tab.lookup ("tuple" : Str) = some .globalImplicit := by rfl) (hs : ∀ env : Env, starEach [a] env = (false, eval a env) :: starEach [] env := by intro _; rfl) : DE C (.Call (.Name "tuple" p) [a] [] pos) r (.tuple ds) := by
  refine de_callTy (id := "tuple") (rr := fun xs H Q => ∃ p ys, xs = [.ref p] ∧ ((SqL T.K H p ys ∧ ∀ l, H l = none → Q (.ref l) (upd H l (.tup ys))) ∨ (SqT T.K H p ys ∧ Q (.ref p) H))) (fun X hX => ?_) B.tuple (by decide +kernel) (das_cons ha das_nil hs) (fun G H vs Q e h q => ?_) hg (by decide) (by decide) hs (fun _ => rfl)
  · have h := call_tuple_of (X := X)
    rw [(C.ok X hX).eK] at h
    exact h
  · obtain ⟨v, rfl, h1⟩ := h.one_inv
    obtain ⟨p, xs, rfl, h2, h3⟩ := h1.lst_inv
    exact ⟨p, xs, rfl, .inl ⟨SqL.of (e _ _ h2), fun l hl => q _ _ _ (.new e hl) (.tup (SqT.of upd_same) (h3.mono (same_new (e.free hl))))⟩⟩
/-- list(range(n)) -/
theorem dn_listRange {n : Int} {p1 p2 : Pos} (ha : DE C a r (.int n)) (h0 : 0 ≤ n) (h1 : n ≤ 1000000) (hg : C.tab.lookup ("list" : Str) = some .globalImplicit := by rfl) (hg2 : C.tab.lookup ("range" : Str) = some .globalImplicit := by rfl)
    (hs : ∀ env : Env, starEach [a] env = (false, eval a env) :: starEach [] env := by intro _; rfl)
    (hs2 : ∀ env : Env, starEach [.Call (.Name "range" p1) [a] [] p2] env = (false, eval (.Call (.Name "range" p1) [a] [] p2) env) :: starEach [] env := by intro _; rfl) : DN C (.Call (.Name "list" p) [.Call (.Name "range" p1) [a] [] p2] [] pos) r ((List.range n.toNat).map fun i => .int (i : Nat)) := by
  obtain ⟨ta, pa, ea⟩ := ha
  refine ⟨tLstRg (tRg1 ta), fun X hX => ?_, fun σ G H Q e s q => ?_⟩
  · have c := C.ok X hX
    exact pe_listRg c.calm (gl_of c.etab hg) (by rw [c.emg]; exact B.list) (prg_1 (gl_of c.etab hg2) (by rw [c.emg]; exact B.range) (pa X hX) (hs X.env)) (hs2 X.env)
  · refine ea σ G H _ e s fun v G1 H1 x1 r1 => ⟨n, r1.int_inv, RgOk.of_le (by omega) (by omega) (by omega) (by omega), fun o ho => ?_⟩
    refine q o _ G1 _ (x1.h.free ho) (x1.trans (.hid x1.gh ho)) (x1.gh.free ho) upd_same ?_
    have e1 : rgV 0 n = ((List.range n.toNat).map fun i => V.int (i : Nat)) := by
      unfold rgV
      rw [Int.sub_zero]
      refine List.map_congr_left fun i _ => ?_
      rw [Int.zero_add]
    have e2 : ∀ l : List Nat, RpAll T G1 (l.map fun i => V.int (i : Nat)) (l.map fun i => PyData.int (i : Nat)) := fun l => by
      induction l with
      | nil => exact .nil
      | cons x l ih => exact .cons (.int _) ih
    rw [e1]; exact e2 _
end
end
end DL

/-! DL, part F: targets, statements, loops. -/
namespace DL
open PySem PySem.Spec L2
open PyProof.Rows hiding St
section
variable {T : Tx} {C : CS T} {r r1 r2 r3 : Sls} {R : PyData → Prop} {a b c e tg : Expr} {es ts : List Expr} {st : Stmt} {sts body : List Stmt} {pos p p2 pos' : Pos} {d d' f : PyData} {ds ds' : List PyData}
variable {G0 H0 G H G' H' : Hp} {σ : St}

/-! ### a slot stored -/
theorem get_set {α : Type} {l : List α} {i j : Nat} {v : α} (h : j ≠ i) : (l.set i v)[j]? = l[j]? := List.getElem?_set_ne (Ne.symm h)
theorem Sl.set {i : Nat} {v : V} (h : Sl T r σ G H) (hv : Rp T G v d) : Sl T (r.set i (.dat d)) (σ.set i (some v)) G H := by
  refine ⟨by rw [List.length_set, List.length_set]; exact h.len, fun j s hs => ?_⟩
  by_cases hj : j = i
  · subst hj
    by_cases hl : j < r.length
    · rw [List.getElem?_set_self hl] at hs
      cases hs
      rw [List.getElem?_set_self (by rw [h.len]; exact hl)]
      exact ⟨v, rfl, hv⟩
    · rw [List.getElem?_eq_none (by rw [List.length_set]; omega)] at hs
      cases hs
  · rw [get_set hj] at hs ⊢
    exact h.at_ j s hs
theorem own_off {σ' : St} {i k : Nat} {s : SV} {a : Addr} (hk : k ≠ i) (hσ : σ'[k]? = σ[k]?) (h : OwnAt (r.set i s) σ' k a) : OwnAt r σ k a := by
  unfold OwnAt at h ⊢
  rw [get_set hk, hσ] at h
  exact h
theorem own_in {σ' : St} {i : Nat} {s : SV} {a : Addr} (h : OwnAt (r.set i s) σ' i a) : i < r.length ∧ OwnV σ'[i]? (some s) a := by
  unfold OwnAt at h
  by_cases hl : i < r.length
  · rw [List.getElem?_set_self hl] at h
    exact ⟨hl, h⟩
  · have e : (r.set i s)[i]? = none := List.getElem?_eq_none (by rw [List.length_set]; omega)
    rw [e] at h
    exact absurd h OwnV.none
theorem touch_no {σ' : St} {i : Nat} {s : SV} (hl : σ'.length = σ.length) (hσ : ∀ j, j ≠ i → σ'[j]? = σ[j]?) (hs : noOwn s) : Touch [i] r σ (r.set i s) σ' :=
  ⟨hl, fun j hj => hσ j (by simpa using hj), fun k x hk => by
    by_cases hki : k = i
    · subst hki; exact absurd (own_in hk).2 (OwnV.no hs)
    · exact own_off hki (hσ k hki) hk⟩
theorem touch_set {i : Nat} {v : V} : Touch [i] r σ (r.set i (.dat d)) (σ.set i (some v)) := touch_no List.length_set (fun j hj => get_set hj) trivial
theorem Bs.touch {σ' : St} {ix : List Nat} (h : Bs T G0 H0 r σ G H) (s : Sl T r1 σ' G H) (t : Touch ix r σ r1 σ') : Bs T G0 H0 r1 σ' G H :=
  ⟨h.ext, s, fun j x hj => let ⟨q1, q2⟩ := h.own j x (t.own j x hj); ⟨q1, fun k hk => q2 k (t.own k x hk)⟩⟩
theorem Bs.set {i : Nat} {v : V} (h : Bs T G0 H0 r σ G H) (hv : Rp T G v d) : Bs T G0 H0 (r.set i (.dat d)) (σ.set i (some v)) G H := h.touch (h.sl.set hv) touch_set
theorem SlotOk.keep {o : Option (Option V)} {s : SV} (g : Same G G') (hk : ∀ a, OwnV o (some s) a → H' a = H a ∧ G' a = none) (h : SlotOk T G H o s) : SlotOk T G' H' o s := by
  cases s with
  | unk => trivial
  | dat d => obtain ⟨v, e1, e2⟩ := h; exact ⟨v, e1, e2.mono g⟩
  | own ds =>
    obtain ⟨a, xs, e1, e2, e3, e4⟩ := h
    obtain ⟨k1, k2⟩ := hk a (.inl ⟨e1, .inl ⟨_, rfl⟩⟩)
    exact ⟨a, xs, e1, k2, by rw [k1]; exact e3, e4.mono g⟩
  | ownd kvs =>
    obtain ⟨a, xs, e1, e2, e3, e4⟩ := h
    obtain ⟨k1, k2⟩ := hk a (.inl ⟨e1, .inr ⟨_, rfl⟩⟩)
    exact ⟨a, xs, e1, k2, by rw [k1]; exact e3, e4.mono g⟩
  | gen φ m => obtain ⟨v, e1, e2⟩ := h; exact ⟨v, e1, m _ _ _ g e2⟩
  | obj P =>
    obtain ⟨v, e1, e2, e3⟩ := h
    have k := fun a ha => hk a (.inr ⟨P, rfl, ha⟩)
    exact ⟨v, e1, P.loc e2 g fun a ha => (k a ha).1, fun a ha => ⟨(k a ha).2, by rw [(k a ha).1]; exact (e3 a ha).2⟩⟩
  | bot => exact h
theorem SlotOk.there {o : Option (Option V)} {s : SV} {a : Addr} (h : SlotOk T G H o s) (hk : OwnV o (some s) a) : G a = none ∧ H a ≠ none := by
  rcases hk with ⟨e0, ⟨_, e⟩ | ⟨_, e⟩⟩ | ⟨P, e, ha⟩ <;> cases e
  · obtain ⟨y, _, f1, f2, f3, _⟩ := h
    rw [e0] at f1; cases f1
    exact ⟨f2, by rw [f3]; simp⟩
  · obtain ⟨y, _, f1, f2, f3, _⟩ := h
    rw [e0] at f1; cases f1
    exact ⟨f2, by rw [f3]; simp⟩
  · obtain ⟨_, _, _, q⟩ := h
    exact q a ha
theorem Sl.there {k : Nat} {a : Addr} (h : Sl T r σ G H) (hk : OwnAt r σ k a) : G a = none ∧ H a ≠ none := by
  unfold OwnAt at hk
  cases e : r[k]? with
  | none => rw [e] at hk; exact absurd hk OwnV.none
  | some s => rw [e] at hk; exact (h.at_ k s e).there hk
/-- THE RULE for a slot's change -/
theorem Bs.put {i : Nat} {s : SV} {σ' : St} (h : Bs T G0 H0 r σ G H) (hσ : σ'.length = σ.length) (hσo : ∀ j, j ≠ i → σ'[j]? = σ[j]?) (x : Ext G0 H0 G' H') (sG : Same G G') (hk : ∀ j a, j ≠ i → OwnAt r σ j a → H' a = H a ∧ G' a = none)
    (hs : i < r.length → SlotOk T G' H' σ'[i]? s) (hn : ∀ a, OwnV σ'[i]? (some s) a → H0 a = none ∧ ∀ k, k ≠ i → ¬ OwnAt r σ k a) : Bs T G0 H0 (r.set i s) σ' G' H' := by
  refine ⟨x, ⟨by rw [hσ, List.length_set]; exact h.sl.len, fun j s' hs' => ?_⟩, fun j y hy => ?_⟩
  · by_cases hj : j = i
    · subst hj
      by_cases hl : j < r.length
      · rw [List.getElem?_set_self hl] at hs'
        cases hs'
        exact hs hl
      · rw [List.getElem?_eq_none (by rw [List.length_set]; omega)] at hs'
        cases hs'
    · rw [get_set hj] at hs'
      rw [hσo j hj]
      exact (h.sl.at_ j s' hs').keep sG fun a ha => hk j a hj (by unfold OwnAt; rw [hs']; exact ha)
  · by_cases hj : j = i
    · subst hj
      obtain ⟨q1, q2⟩ := hn y (own_in hy).2
      refine ⟨q1, fun k hk' => ?_⟩
      by_cases hkj : k = j
      · exact hkj
      · exact absurd (own_off hkj (hσo k hkj) hk') (q2 k hkj)
    · have hy' := own_off hj (hσo j hj) hy
      obtain ⟨q1, q2⟩ := h.own j y hy'
      refine ⟨q1, fun k hk' => ?_⟩
      by_cases hkj : k = i
      · subst hkj
        exact absurd hy' ((hn y (own_in hk').2).2 j hj)
      · exact q2 k (own_off hkj (hσo k hkj) hk')
/-- a slot is given an object that is owned from now on -/
theorem Bs.setOwn {i : Nat} {x : Addr} {s : SV} (h : Bs T G0 H0 r σ G H) (hx : ∀ a, OwnV (some (some (.ref x))) (some s) a → H0 a = none ∧ ∀ k, ¬ OwnAt r σ k a) (hs : SlotOk T G H (some (some (.ref x))) s) : Bs T G0 H0 (r.set i s) (σ.set i (some (.ref x))) G H := by
  refine h.put List.length_set (fun j hj => get_set hj) h.ext (Same.refl _) (fun j a _ hj => ⟨rfl, (h.sl.there hj).1⟩) (fun hl => ?_) fun a ha => ?_
  · rw [List.getElem?_set_self (by rw [h.sl.len]; exact hl)]; exact hs
  · by_cases hl : i < σ.length
    · rw [List.getElem?_set_self hl] at ha
      exact ⟨(hx a ha).1, fun k _ => (hx a ha).2 k⟩
    · rw [List.getElem?_eq_none (by rw [List.length_set]; omega)] at ha
      rcases ha with ⟨e, _⟩ | ⟨P, e, ha⟩
      · cases e
      · cases e
        exact ⟨(hx a (.inr ⟨P, rfl, ha⟩)).1, fun k _ => (hx a (.inr ⟨P, rfl, ha⟩)).2 k⟩
/-- a new object's address is owned by no slot -/
theorem Bs.fresh {x : Addr} {s : SV} (h : Bs T G0 H0 r σ G H) (hx : H x = none) (hs : (∃ ds, s = .own ds) ∨ ∃ kvs, s = .ownd kvs) {H1 : Hp} {G1 : Hp} (h1 : Ext G H G1 H1) : ∀ a, OwnV (some (some (.ref x))) (some s) a → H0 a = none ∧ ∀ k, ¬ OwnAt r σ k a := by
  rintro a (⟨e, _⟩ | ⟨P, e, ha⟩)
  · cases e
    exact ⟨h.ext.h.free hx, fun k hk => (h.sl.there hk).2 hx⟩
  · rcases hs with ⟨_, rfl⟩ | ⟨_, rfl⟩ <;> cases e
/-- the object that a slot owns is changed -/
theorem Bs.change {i : Nat} {x : Addr} {s : SV} {o : HO} (h : Bs T G0 H0 r σ G H) (hi : σ[i]? = some (some (.ref x)) ∧ ((∃ ds, r[i]? = some (SV.own ds)) ∨ ∃ kvs, r[i]? = some (SV.ownd kvs))) (hs : SlotOk T G (upd H x o) (some (some (.ref x))) s) (hw : (∃ ds, s = .own ds) ∨ (∃ k, s = .ownd k)) : Bs T G0 H0 (r.set i s) σ G (upd H x o) := by
  have hi' : OwnAt r σ i x := .inl hi
  obtain ⟨hx0, huq⟩ := h.own i x hi'
  have hx1 := (h.sl.there hi').1
  have sH : ∀ b u, b ≠ x → H b = some u → (upd H x o) b = some u := fun b u hb e => by rw [upd_ne hb]; exact e
  refine h.put rfl (fun _ _ => rfl) ⟨h.ext.g, fun b u e => sH b u (ne_of_none e hx0) (h.ext.h b u e), fun b u e => sH b u (ne_of_none e hx1) (h.ext.gh b u e), h.ext.sep⟩ (Same.refl _) (fun j a hj ha => ?_) (fun _ => by rw [hi.1]; exact hs) fun a ha => ?_
  · refine ⟨upd_ne fun z => ?_, (h.sl.there ha).1⟩
    subst z
    exact hj (huq j ha)
  · rw [hi.1] at ha
    rcases ha with ⟨e, _⟩ | ⟨P, e, _⟩
    · cases e
      exact ⟨hx0, fun k hk hk' => hk (huq k hk')⟩
    · rcases hw with ⟨_, rfl⟩ | ⟨_, rfl⟩ <;> cases e
/-- a slot is forgotten, or its list is data from now on -/
theorem Bs.forget {i : Nat} (h : Bs T G0 H0 r σ G H) : Bs T G0 H0 (r.set i .unk) σ G H :=
  h.put rfl (fun _ _ => rfl) h.ext (Same.refl _) (fun j a _ ha => ⟨rfl, (h.sl.there ha).1⟩) (fun _ => trivial) fun a ha => absurd ha (OwnV.no trivial)
theorem Bs.release {i : Nat} (h : Bs T G0 H0 r σ G H) (hi : r[i]? = some (.own ds)) : ∃ G', Same G G' ∧ Bs T G0 H0 (r.set i (.dat (.list ds))) σ G' H := by
  obtain ⟨x, xs, e1, e2, e3, e4⟩ := h.sl.at_ i _ hi
  have hx : OwnAt r σ i x := .inl ⟨e1, .inl ⟨ds, hi⟩⟩
  obtain ⟨q1, q2⟩ := h.own i x hx
  have s1 : Same G (upd G x (.lst xs)) := same_new e2
  refine ⟨upd G x (.lst xs), s1, h.put rfl (fun _ _ => rfl) ⟨h.ext.g.trans s1, h.ext.h, fun b u e => ?_, fun b u h1 h2 => ?_⟩ s1 (fun j a hj ha => ⟨rfl, ?_⟩) (fun _ => ⟨_, e1, .lst upd_same (e4.mono s1)⟩) fun a ha => absurd ha (OwnV.no trivial)⟩
  · by_cases hb : b = x
    · subst hb; rw [upd_same] at e; cases e; exact e3
    · rw [upd_ne hb] at e; exact h.ext.gh b u e
  · rw [upd_ne (ne_of_none h1 q1)]; exact h.ext.sep b u h1 h2
  · rw [upd_ne fun z => by subst z; exact hj (q2 j ha)]; exact (h.sl.there ha).1
/-- another base, further on -/
theorem Bs.rebase (h : Bs T G0 H0 r σ G H) : Bs T G H0 r σ G H := ⟨⟨Same.refl _, h.ext.h, h.ext.gh, fun _ _ _ z => z⟩, h.sl, h.own⟩
theorem Bs.debase {G1 : Hp} (h0 : Ext G0 H0 G1 H') (h : Ext G1 H0 G H) : Ext G0 H0 G H := ⟨h0.g.trans h.g, h.h, h.gh, fun b u h1 h2 => h.sep b u h1 (h0.sep b u h1 h2)⟩

/-! ### targets -/
def locB (C : CS T) (x : Str) : Bool := match C.tab.lookup x with
  | some .local => true
  | some .cell => C.fnc x
  | _ => false
theorem loc_of {X : Cx} {x : Str} (hX : C.S X) (h : locB C x = true) : L2.Loc X.env.scope x ∧ (X.fn x = true ∨ X.env.scope.names.lookup x = some .local) := by
  have c := C.ok X hX
  unfold locB at h
  unfold L2.Loc
  rw [c.etab]
  cases e : C.tab.lookup x with
  | none => rw [e] at h; cases h
  | some k =>
    rw [e] at h
    cases k <;> simp at h ⊢
    exact c.fn x h
theorem dg_name (i : Nat) {x : Str} (hN : C.N[i]? = some x := by rfl) (hx : locB C x = true := by rfl) : DG C (.Name x pos) r d (r.set i (.dat d)) [i] :=
  ⟨gName i, fun X hX => by
    have c := C.ok X hX
    exact pg_name (by rw [c.eN]; exact c.nd) (by rw [c.eN]; exact hN) (loc_of hX hx).1 (loc_of hX hx).2, fun σ G H v Q e h hv q => q _ (h.set hv) touch_set⟩
def DGs (C : CS T) (ts : List Expr) (r : Sls) (ds : List PyData) (r' : Sls) (ix : List Nat) : Prop := ∃ g, (∀ X, C.S X → PGs X ts g) ∧ ∀ (σ : St) (G H : Hp) (vs : List V) (Q : St → Hp → Prop), Same G H → Sl T r σ G H → RpAll T G vs ds → (∀ σ', Sl T r' σ' G H → Touch ix r σ r' σ' → Q σ' H) → g vs σ H Q
theorem dgs_nil : DGs C [] r [] r [] := ⟨gNil, fun X hX => pgs_nil, fun σ G H vs Q e h hv q => by cases hv; exact ⟨rfl, q _ h .refl⟩⟩
theorem dgs_cons {ix jx : List Nat} (h1 : DG C e r d r1 ix) (h2 : DGs C es r1 ds r2 jx) (hs : ∀ env : Env, (assignEach (e :: es) env).map (·.2) = assign e env :: (assignEach es env).map (·.2) := by intro _; rfl) : DGs C (e :: es) r (d :: ds) r2 (ix ++ jx) := by
  obtain ⟨g, pg, eg⟩ := h1
  obtain ⟨gs, pgs, egs⟩ := h2
  refine ⟨gCons g gs, fun X hX => pgs_cons (pg X hX) (pgs X hX) (hs X.env), fun σ G H vs Q e h hv q => ?_⟩
  cases hv with
  | cons v1 v2 => exact ⟨_, _, rfl, eg σ G H _ _ e h v1 fun σ' h' t1 => egs σ' G H _ _ e h' v2 fun σ2 h2 t2 => q σ2 h2 (t1.trans t2)⟩
theorem dg_tup {k : Nat} {ix : List Nat} (h : DGs C es r ds r1 ix) (hn : ∀ env : Env, (assignEach es env).length = ds.length := by intro _; rfl) (hst : ∀ env : Env, (assignEach es env).findIdx? (·.1) = none := by intro _; rfl) : DG C (.Tuple es k pos) r (.tuple ds) r1 ix := by
  obtain ⟨g, pg, eg⟩ := h
  refine ⟨gTup T.K ds.length g, fun X hX => ?_, fun σ G H v Q e h hv q => ?_⟩
  · have c := C.ok X hX
    have h := pg_tup (k := k) (pos := pos) c.calm (pg X hX) (hn X.env) (hst X.env)
    rw [c.eK] at h
    exact h
  · obtain ⟨x, xs, rfl, h1, h2⟩ := hv.tup_inv
    exact ⟨x, xs, rfl, same_t e h1, h2.length, eg σ G H xs Q e h h2 q⟩

/-! ### blocks -/
theorem dss_nil : DSs C [] r R r := ⟨tNext, fun X hX => pss_nil, fun G0 H0 σ G H D h q _ => q σ G H h⟩
theorem dss_cons (h1 : DS C st r R r1) (h2 : DSs C sts r1 R r2) : DSs C (st :: sts) r R r2 := by
  obtain ⟨t, pt, et⟩ := h1
  obtain ⟨u, pu, eu⟩ := h2
  exact ⟨tSeq t u, fun X hX => pss_cons (pt X hX) (pu X hX), fun G0 H0 σ G H D h q qr => et G0 H0 σ G H _ h (fun σ' G' H' h' => eu G0 H0 σ' G' H' D h' q qr) qr⟩
theorem dss_one (h : DS C st r R r1) : DSs C [st] r R r1 := let ⟨t, pt, et⟩ := h; ⟨t, fun X hX => pss_one (pt X hX), et⟩
/-- the slots told otherwise ahead of a block -/
theorem dss_rel (i : Nat) (hi : r[i]? = some (.own ds)) (h : DSs C sts (r.set i (.dat (.list ds))) R r1) : DSs C sts r R r1 := by
  obtain ⟨t, pt, et⟩ := h
  refine ⟨t, pt, fun G0 H0 σ G H D h q qr => ?_⟩
  obtain ⟨G', _, h'⟩ := h.release hi
  exact et G0 H0 σ G' H D h' q qr
theorem dss_forget (i : Nat) (h : DSs C sts (r.set i .unk) R r1) : DSs C sts r R r1 := by
  obtain ⟨t, pt, et⟩ := h
  exact ⟨t, pt, fun G0 H0 σ G H D h q qr => et G0 H0 σ G H D h.forget q qr⟩
theorem dss_to (h : DSs C sts r R r1) (e : r1 = r2) : DSs C sts r R r2 := e ▸ h
theorem ds_to (h : DS C st r R r1) (e : r1 = r2) : DS C st r R r2 := e ▸ h
/-- behind it a slot is forgotten -/
theorem ds_out {i : Nat} (h : DS C st r R r1) (e : r1.set i .unk = r2) : DS C st r R r2 := by
  subst e
  obtain ⟨t, pt, et⟩ := h
  exact ⟨t, pt, fun G0 H0 σ G H D h q qr => et G0 H0 σ G H D h (fun σ' G' H' h' => q σ' G' H' h'.forget) qr⟩
theorem dss_out {i : Nat} (h : DSs C sts r R r1) (e : r1.set i .unk = r2) : DSs C sts r R r2 := by
  subst e
  obtain ⟨t, pt, et⟩ := h
  exact ⟨t, pt, fun G0 H0 σ G H D h q qr => et G0 H0 σ G H D h (fun σ' G' H' h' => q σ' G' H' h'.forget) qr⟩

/-! ### simple statements -/
theorem ds_asg {ix : List Nat} (he : DE C e r d) (hg : DG C tg r d r1 ix) (hs : ∀ env : Env, swapsWithSole [tg] e pos.line env = pure false := by intro _; rfl) (hw : ∀ env : Env, swappedStores [tg] e env = pure none := by intro _; rfl)
    (h1 : ∀ env : Env, (assignEach [tg] env).map (·.2) = [assign tg env] := by intro _; rfl) : DS C (.Assign [tg] e pos) r R r1 := by
  obtain ⟨t, pt, et⟩ := he
  obtain ⟨g, pg, eg⟩ := hg
  refine ⟨tAsg t g, fun X hX => ps_asg (pt X hX) (pg X hX) (hs X.env) (hw X.env) (h1 X.env), fun G0 H0 σ G H D h q _ => ?_⟩
  exact et σ G H _ h.ext.gh h.sl fun v G1 H1 x1 r1 => eg σ G1 H1 v _ x1.gh (h.sl.mono x1) r1 fun σ' h' t' => q σ' G1 H1 ((h.mono x1).touch h' t')
/-- a name is given a new list, owned -/
theorem ds_new (i : Nat) {x : Str} (he : DN C e r ds) (hN : C.N[i]? = some x := by rfl) (hx : locB C x = true := by rfl) (hs : ∀ env : Env, swapsWith e (some (.Name x pos')) pos.line env = pure false := by intro _; rfl) : DS C (.Assign [.Name x pos'] e pos) r R (r.set i (.own ds)) := by
  obtain ⟨t, pt, et⟩ := he
  refine ⟨tAsg t (gName i), fun X hX => ?_, fun G0 H0 σ G H D h q _ => ?_⟩
  · have c := C.ok X hX
    exact ps_set (by rw [c.eN]; exact c.nd) (by rw [c.eN]; exact hN) (loc_of hX hx).1 (pt X hX) (hs X.env) (loc_of hX hx).2
  · refine et σ G H _ h.ext.gh h.sl fun o xs G1 H1 ho x1 hg hh ra => ?_
    have h' := h.mono x1
    exact q _ G1 H1 (h'.setOwn (h.fresh ho (.inl ⟨_, rfl⟩) x1) ⟨o, xs, rfl, hg, hh, ra⟩)
theorem ds_ret (he : DE C e r d) (hR : R d) : DS C (.Return (some e) pos) r R r1 := by
  obtain ⟨t, pt, et⟩ := he
  exact ⟨tRet t, fun X hX => ps_ret (pt X hX), fun G0 H0 σ G H D h _ qr => et σ G H _ h.ext.gh h.sl fun v G1 H1 x1 r1 => qr d v G1 H1 hR (h.ext.trans x1) r1⟩
theorem ds_if {x : Bool} (hc : DT C c r x) (ha : x = true → DSs C sts r R r1) (hb : x = false → DSs C body r R r1) : DS C (.If c sts body pos) r R r1 := by
  obtain ⟨tc, pc, ec⟩ := hc
  cases x with
  | true =>
    obtain ⟨t, pt, et⟩ := ha rfl
    refine ⟨tIfS tc t tNever, fun X hX => ps_if (pc X hX) (pt X hX) pss_never, fun G0 H0 σ G H D h q qr => ?_⟩
    refine ec σ G H _ h.ext.gh h.sl fun G1 H1 x1 => ?_
    show (if true = true then _ else _)
    rw [if_pos rfl]
    exact et G0 H0 σ G1 H1 D (h.mono x1) q qr
  | false =>
    obtain ⟨t, pt, et⟩ := hb rfl
    refine ⟨tIfS tc tNever t, fun X hX => ps_if (pc X hX) pss_never (pt X hX), fun G0 H0 σ G H D h q qr => ?_⟩
    refine ec σ G H _ h.ext.gh h.sl fun G1 H1 x1 => ?_
    show (if false = true then _ else _)
    rw [if_neg (by decide)]
    exact et G0 H0 σ G1 H1 D (h.mono x1) q qr
/-- x += e of ints -/
theorem ds_aug (i : Nat) {x : Str} {m n : Int} (hr : r[i]? = some (.dat (.int m))) (he : DE C e r (.int n)) (hN : C.N[i]? = some x := by rfl) (hx : locB C x = true := by rfl) : DS C (.AugAssign (.Name x pos') .Add e pos) r R (r.set i (.dat (.int (m + n)))) := by
  obtain ⟨t, pt, et⟩ := he
  refine ⟨tAug i t (ipI fun i j => i + j), fun X hX => ?_, fun G0 H0 σ G H D h q _ => ?_⟩
  · have c := C.ok X hX
    exact ps_aug (by rw [c.eN]; exact c.nd) (by rw [c.eN]; exact hN) (loc_of hX hx).1 (pt X hX) ip_add (loc_of hX hx).2
  · obtain ⟨v, e1, e2⟩ := h.sl.dat hr
    refine ⟨v, e1, et σ G H _ h.ext.gh h.sl fun u G1 H1 x1 r1 => ⟨m, n, e2.int_inv, r1.int_inv, ?_⟩⟩
    exact q _ G1 H1 ((h.mono x1).set (.int _))
/-- x.append(e), x an owned list -/
theorem ds_append (i : Nat) {x : Str} {apos cpos ppos : Pos} (hr : r[i]? = some (.own ds)) (he : DE C e r d) (hl : ds.length ≤ 1000000) (hN : C.N[i]? = some x := by rfl) (hv : visB C.tab x = true := by rfl)
    (hd : (x == ("__debug__" : Str)) = false := by decide) (hcd : (x == ("__classdict__" : Str)) = false := by decide)
    (hs : ∀ env : Env, starEach [e] env = (false, eval e env) :: starEach [] env := by intro _; rfl) (hline : (apos.endLine == cpos.line) = true := by rfl)
    (hbase : ∀ env : Env, attributeBase (.Name x ppos) ("append" : Str) env (eval (.Name x ppos) env) = eval (.Name x ppos) env := by intro _; rfl)
    (hfew : ∀ env : Env, ((backTo cpos (starEach [e] env)).all (fun x => !x.1) && (backToKw cpos (keywordEach [] env)).all (fun x => x.1.isSome)
      && decide ([e].length + ([] : List Keyword).length + (if ([] : List Keyword).isEmpty then 0 else 1) < 30)) = true := by intro _; rfl) :
    DS C (.Expr (.Call (.Attribute (.Name x ppos) ("append" : Str) apos) [e] [] cpos) pos) r R (r.set i (.own (ds ++ [d]))) := by
  obtain ⟨t, pt, et⟩ := he
  refine ⟨tDrop (tBM T.K "list" rAppend (tVar i) (tCons t tNil)), fun X hX => ?_, fun G0 H0 σ G H D h q _ => ?_⟩
  · have c := C.ok X hX
    have h1 : PE X (.Name x ppos) (tVar i) := pe_var (by rw [c.eN]; exact hN) (vis_of (by rw [c.etab]; exact hv)) hd hcd
    have h2 := pe_bm PySem.F.plainAttrs_list PySem.F.slot_list_append PySem.F.type_list_append mt_append h1 (pa_cons (pt X hX) pa_nil (hs X.env)) (hbase X.env) (hfew X.env) hline (hs X.env) rfl
    rw [c.eK] at h2
    exact ps_expr h2
  · obtain ⟨o, xs, e1, e2, e3, e4⟩ := h.sl.at_ i _ hr
    refine ⟨_, e1, .inl ⟨rfl, _, SqL.of e3⟩, et σ G H _ h.ext.gh h.sl fun v G1 H1 x1 r1 => ?_⟩
    have h' := h.mono x1
    have e3' := x1.h _ _ e3
    refine ⟨o, xs, v, rfl, rfl, e3', by rw [e4.length]; exact smallLt hl, ?_⟩
    exact q σ G1 _ (h'.change ⟨e1, .inl ⟨ds, hr⟩⟩ ⟨o, _, rfl, x1.sep _ _ e3 e2, upd_same, (e4.mono x1.g).snoc r1⟩ (.inl ⟨_, rfl⟩))

/-! ### for -/
/-- a loop over what is walked; ri: the slots ahead of turn i -/
theorem ds_for {its : List PyData} (hi : DI C tg e r its) (ri : Nat → Sls) (h0 : ri 0 = r) (hb : ∀ i d, its[i]? = some d → ∃ r2 ix, DG C tg (ri i) d r2 ix ∧ DSs C body r2 R (ri (i + 1)))
    (hs : ∀ (env : Env) (x : Value), foldedSetIterable e env x = pure x := by intro _ _; rfl) : DS C (.For tg e body [] pos) r R (ri its.length) := by
  obtain ⟨wi, pi, ei⟩ := hi
  -- the readings put into one
  let g : TG := fun v σ H Q => ∃ g', (∀ X, C.S X → PG X tg g') ∧ g' v σ H Q
  let t : TS := fun D σ H => ∃ t', (∀ X, C.S X → PSs X body t') ∧ t' D σ H
  have pg : ∀ X, C.S X → PG X tg g := fun X hX => ⟨fun pins s σ H v u Q I rv ⟨g', p', h'⟩ => (p' X hX).run pins s σ H v u Q I rv h'⟩
  have pt : ∀ X, C.S X → PSs X body t := fun X hX => ⟨fun pins s σ H D I ⟨t', p', h'⟩ => (p' X hX).run pins s σ H D I h'⟩
  refine ⟨tFor wi g t, fun X hX => ?_, fun G0 H0 σ G H D h q qr => ?_⟩
  · have c := C.ok X hX
    exact ps_for (by rw [c.xe]; exact PassesOwn.never) c.calm (pi X hX) (pg X hX) (pt X hX) (hs X.env)
  · refine ei σ G H _ h.ext.gh h.sl fun J G1 H1 x1 W => ?_
    have hB1 := h.mono x1
    refine ⟨fun i m σ' H' => m = its.length - i ∧ i ≤ its.length ∧ ∃ G', Bs T G1 H0 (ri i) σ' G' H', ⟨its.length, by omega, Nat.zero_le _, G1, by rw [h0]; exact hB1.rebase⟩, ?_⟩
    rintro i m σ' H' ⟨rfl, hle, G', hB⟩
    by_cases hlt : i < its.length
    · obtain ⟨hgo, hy⟩ := W.go i its[i] G' H' (List.getElem?_eq_getElem hlt) hB.ext.g hB.ext.gh
      refine .inr ⟨hgo, fun σ2 H2 => ∃ G2, Bs T G1 H0 (ri (i + 1)) σ2 G2 H2, fun σ2 H2 ⟨G2, h2⟩ => ⟨its.length - (i + 1), by omega, rfl, hlt, G2, h2⟩, fun x H2 y => ?_⟩
      obtain ⟨G3, x3, r3⟩ := hy x H2 y
      obtain ⟨r2, ix, ⟨g', pg', eg⟩, t', pt', et⟩ := hb i its[i] (List.getElem?_eq_getElem hlt)
      have hB3 := hB.mono x3
      exact ⟨g', pg', eg σ' G3 H2 x _ x3.gh hB3.sl r3 fun σ4 h4 k4 => ⟨t', pt', et G1 H0 σ4 G3 H2 _ (hB3.touch h4 k4) (fun σ5 G5 H5 h5 => ⟨G5, h5⟩) (fun d v G4 H4 hR hx hv => qr d v G4 H4 hR (Bs.debase hB1.ext hx) hv)⟩⟩
    · have e : i = its.length := by omega
      subst e
      exact .inl ⟨W.stop G' H' hB.ext.g hB.ext.gh, q σ' G' H' ⟨Bs.debase hB1.ext hB.ext, hB.sl, hB.own⟩⟩
end
end DL

/-! DL, part H: what is walked; list comprehensions. -/
namespace DL
open PySem PySem.Spec L2
open PyProof.Rows hiding St
section
variable {T : Tx} {C : CS T} {r r1 r2 r3 : Sls} {R : PyData → Prop} {a b c e tg : Expr} {es ts : List Expr} {st : Stmt} {sts body : List Stmt} {pos p p2 pos' tpos : Pos} {d d' f : PyData} {ds ds' : List PyData} {kk : Nat}
variable {G0 H0 G H G' H' : Hp} {σ : St}

/-! ### what is walked -/
theorem di_list (he : DE C e r (.list ds)) : DI C tg e r ds := by
  obtain ⟨t, pt, et⟩ := he
  refine ⟨iList T.K t, fun X hX => ?_, fun σ G H R e s q => ?_⟩
  · have h := pi_list (tg := tg) (pt X hX)
    rw [(C.ok X hX).eK] at h
    exact h
  · refine et σ G H _ e s fun v G1 H1 x1 r1 => ?_
    obtain ⟨o, xs, rfl, h1, h2⟩ := r1.lst_inv
    refine ⟨o, rfl, ⟨xs, SqL.of (x1.gh _ _ h1)⟩, q _ G1 H1 x1 ⟨fun i d G H hd e1 e2 => ?_, fun G H e1 e2 => ?_⟩⟩
    · obtain ⟨v, hv, rv⟩ := h2.get hd
      refine ⟨⟨xs, v, SqL.of (e2 _ _ (e1 _ _ h1)), hv⟩, fun x H' y => ?_⟩
      obtain ⟨rfl, y⟩ := y
      have e3 := y xs (SqL.of (e2 _ _ (e1 _ _ h1)))
      rw [hv] at e3; cases e3
      exact ⟨G, .refl e2, rv.mono e1⟩
    · exact ⟨xs, SqL.of (e2 _ _ (e1 _ _ h1)), by rw [h2.length]; exact Nat.le_refl _⟩
theorem di_tup (he : DE C e r (.tuple ds)) : DI C tg e r ds := by
  obtain ⟨t, pt, et⟩ := he
  refine ⟨iTup T.K t, fun X hX => ?_, fun σ G H R e s q => ?_⟩
  · have h := pi_tup (tg := tg) (pt X hX)
    rw [(C.ok X hX).eK] at h
    exact h
  · refine et σ G H _ e s fun v G1 H1 x1 r1 => ?_
    obtain ⟨o, xs, rfl, h1, h2⟩ := r1.tup_inv
    refine ⟨o, rfl, ⟨xs, same_t x1.gh h1⟩, q _ G1 H1 x1 ⟨fun i d G H hd e1 e2 => ?_, fun G H e1 e2 => ?_⟩⟩
    · obtain ⟨v, hv, rv⟩ := h2.get hd
      have h1' := same_t e2 (same_t e1 h1)
      refine ⟨⟨xs, v, h1', hv⟩, fun x H' y => ?_⟩
      obtain ⟨rfl, y⟩ := y
      have e3 := y xs h1'
      rw [hv] at e3; cases e3
      exact ⟨G, .refl e2, rv.mono e1⟩
    · exact ⟨xs, same_t e2 (same_t e1 h1), by rw [h2.length]; exact Nat.le_refl _⟩
/-- the ints from m to below n -/
def rngD (m n : Int) : List PyData := (List.range (n - m).toNat).map fun i => .int (m + (i : Nat))
theorem rngD_length (m n : Int) : (rngD m n).length = (n - m).toNat := by simp [rngD]
theorem rngD_get {m n : Int} {i : Nat} {d : PyData} (h : (rngD m n)[i]? = some d) : i < (n - m).toNat ∧ d = .int (m + (i : Nat)) := by
  unfold rngD at h
  rw [List.getElem?_map] at h
  obtain ⟨j, h1, rfl⟩ := Option.map_eq_some_iff.mp h
  obtain ⟨h2, h3⟩ := List.getElem?_eq_some_iff.mp h1
  rw [List.getElem_range] at h3
  subst h3
  rw [List.length_range] at h2
  exact ⟨h2, rfl⟩
theorem walk_rng {m : Int} {n : Int} {G1 H1 : Hp} : WalkD T (Itr m (n - m).toNat) (rngD m n) G1 H1 := by
  refine ⟨fun i d G H hd e1 e2 => ?_, fun G H e1 e2 => by rw [rngD_length]; exact Nat.le_refl _⟩
  obtain ⟨h1, rfl⟩ := rngD_get hd
  refine ⟨h1, fun x H' y => ?_⟩
  obtain ⟨rfl, rfl⟩ := y
  exact ⟨G, .refl e2, .int _⟩
theorem di_range1 (B : Blt T) {n : Int} (ha : DE C a r (.int n)) (h1 : -1000000 ≤ n) (h2 : n ≤ 1000000) (hg : C.tab.lookup ("range" : Str) = some .globalImplicit := by rfl) (hs : ∀ env : Env, starEach [a] env = [(false, eval a env)] := by intro _; rfl) : DI C tg (.Call (.Name "range" p) [a] [] pos) r (rngD 0 n) := by
  obtain ⟨t, pt, et⟩ := das_cons ha das_nil hs
  refine ⟨iRng1 t, fun X hX => ?_, fun σ G H R e s q => ?_⟩
  · have c := C.ok X hX
    exact pi_range1 (gl_of c.etab hg) (by rw [c.emg]; exact B.range) (pt X hX) (hs X.env)
  · refine et σ G H _ e s fun vs G1 H1 x1 r1 => ?_
    obtain ⟨v, rfl, r2⟩ := r1.one_inv
    refine ⟨n, by rw [r2.int_inv], by omega, by omega, ?_⟩
    have e1 : n.toNat = (n - 0).toNat := by rw [Int.sub_zero]
    rw [e1]
    exact q _ G1 H1 x1 walk_rng
theorem di_range2 (B : Blt T) {m n : Int} (ha : DE C a r (.int m)) (hb : DE C b r (.int n)) (h0 : -1000000 ≤ m) (h0' : m ≤ 1000000) (h1 : -1000000 ≤ n) (h2 : n ≤ 1000000) (hg : C.tab.lookup ("range" : Str) = some .globalImplicit := by rfl)
    (hs : ∀ env : Env, starEach [a, b] env = [(false, eval a env), (false, eval b env)] := by intro _; rfl) (hs2 : ∀ env : Env, starEach [b] env = [(false, eval b env)] := by intro _; rfl) : DI C tg (.Call (.Name "range" p) [a, b] [] pos) r (rngD m n) := by
  obtain ⟨t, pt, et⟩ := das_cons ha (das_cons hb das_nil hs2) (fun env => by rw [hs env, hs2 env])
  refine ⟨iRng2 t, fun X hX => ?_, fun σ G H R e s q => ?_⟩
  · have c := C.ok X hX
    exact pi_range2 (gl_of c.etab hg) (by rw [c.emg]; exact B.range) (pt X hX) (hs X.env) (hs2 X.env)
  · refine et σ G H _ e s fun vs G1 H1 x1 r1 => ?_
    obtain ⟨v, u, rfl, r2, r3⟩ := r1.two_inv
    exact ⟨m, n, by rw [r2.int_inv, r3.int_inv], ⟨by omega, by omega, by omega, by omega⟩, q _ G1 H1 x1 walk_rng⟩
/-- pairs of places and items -/
def enumD (ds : List PyData) : List PyData := ds.mapIdx fun i d => .tuple [.int (i : Nat), d]
theorem enumD_length (ds : List PyData) : (enumD ds).length = ds.length := by simp [enumD]
theorem enumD_get {i : Nat} {x : PyData} (h : (enumD ds)[i]? = some x) : ∃ d, ds[i]? = some d ∧ x = .tuple [.int (i : Nat), d] := by
  unfold enumD at h
  rw [List.getElem?_mapIdx] at h
  obtain ⟨d, h1, rfl⟩ := Option.map_eq_some_iff.mp h
  exact ⟨d, h1, rfl⟩
theorem di_enum (B : Blt T) (ha : DE C a r (.list ds)) (hg : C.tab.lookup ("enumerate" : Str) = some .globalImplicit := by rfl) (hs : ∀ env : Env, starEach [a] env = [(false, eval a env)] := by intro _; rfl) : DI C (.Tuple ts kk tpos) (.Call (.Name "enumerate" p) [a] [] pos) r (enumD ds) := by
  obtain ⟨t, pt, et⟩ := das_cons ha das_nil hs
  refine ⟨iEnum T.K t, fun X hX => ?_, fun σ G H R e s q => ?_⟩
  · have c := C.ok X hX
    have h := pi_enum (elts := ts) (kk := kk) (tpos := tpos) (p := p) (pos := pos) (gl_of c.etab hg) (by rw [c.emg]; exact B.enumerate) (pt X hX) (hs X.env)
    rw [c.eK] at h
    exact h
  · refine et σ G H _ e s fun vs G1 H1 x1 r1 => ?_
    obtain ⟨v, rfl, r2⟩ := r1.one_inv
    obtain ⟨o, xs, rfl, h1, h2⟩ := r2.lst_inv
    refine ⟨o, xs, rfl, SqL.of (x1.gh _ _ h1), q _ G1 H1 x1 ⟨fun i d G H hd e1 e2 => ?_, fun G H e1 e2 => ?_⟩⟩
    · obtain ⟨d, hk, rfl⟩ := enumD_get hd
      obtain ⟨v, hv, rv⟩ := h2.get hk
      have hl := SqL.of (K := T.K) (e2 _ _ (e1 _ _ h1))
      refine ⟨⟨xs, v, hl, hv⟩, fun x H' y => ?_⟩
      obtain ⟨o, z, rfl, hn, rfl, y⟩ := y
      have e3 := y xs hl
      rw [hv] at e3; cases e3
      exact ⟨_, .new e2 hn, .tup (SqT.of upd_same) (.cons (.int _) (.cons ((rv.mono e1).mono (same_new (e2.free hn))) .nil))⟩
    · exact ⟨xs, SqL.of (e2 _ _ (e1 _ _ h1)), by rw [h2.length, enumD_length]; exact Nat.le_refl _⟩
/-- pairs of two lists' items -/
def zipD (ds es : List PyData) : List PyData := List.zipWith (fun d e => .tuple [d, e]) ds es
theorem zipD_length (ds es : List PyData) : (zipD ds es).length = min ds.length es.length := by simp [zipD]
theorem zipD_get {es : List PyData} {i : Nat} {x : PyData} (h : (zipD ds es)[i]? = some x) : ∃ d e, ds[i]? = some d ∧ es[i]? = some e ∧ x = .tuple [d, e] := by
  unfold zipD at h
  rw [List.getElem?_zipWith] at h
  cases h1 : ds[i]? with
  | none => rw [h1] at h; simp at h
  | some d =>
    cases h2 : es[i]? with
    | none => rw [h1, h2] at h; simp at h
    | some e =>
      rw [h1, h2] at h
      simp at h
      exact ⟨d, e, rfl, rfl, h.symm⟩
theorem di_zip (B : Blt T) (ha : DE C a r (.list ds)) (hb : DE C b r (.list ds')) (hg : C.tab.lookup ("zip" : Str) = some .globalImplicit := by rfl)
    (hs : ∀ env : Env, starEach [a, b] env = (false, eval a env) :: starEach [b] env := by intro _; rfl) (hs2 : ∀ env : Env, starEach [b] env = [(false, eval b env)] := by intro _; rfl) (hpl : ∀ env : Env, (backTo pos (starEach [b] env)).any (·.1) = false := by intro _; rfl) :
    DI C (.Tuple ts kk tpos) (.Call (.Name "zip" p) [a, b] [] pos) r (zipD ds ds') := by
  obtain ⟨t, pt, et⟩ := das_cons ha (das_cons hb das_nil hs2) hs
  refine ⟨iZip T.K t, fun X hX => ?_, fun σ G H R e s q => ?_⟩
  · have c := C.ok X hX
    have h := pi_zip (elts := ts) (kk := kk) (tpos := tpos) (p := p) (pos := pos) (gl_of c.etab hg) (by rw [c.emg]; exact B.zip) (pt X hX) (hs X.env) (hpl X.env)
    rw [c.eK] at h
    exact h
  · refine et σ G H _ e s fun vs G1 H1 x1 r1 => ?_
    obtain ⟨v, u, rfl, r2, r3⟩ := r1.two_inv
    obtain ⟨o, xs, rfl, h1, h2⟩ := r2.lst_inv
    obtain ⟨o', ys, rfl, h1', h2'⟩ := r3.lst_inv
    refine ⟨o, o', xs, ys, rfl, SqL.of (x1.gh _ _ h1), SqL.of (x1.gh _ _ h1'), q _ G1 H1 x1 ⟨fun i d G H hd e1 e2 => ?_, fun G H e1 e2 => ?_⟩⟩
    · obtain ⟨d, d', hk, hk', rfl⟩ := zipD_get hd
      obtain ⟨v, hv, rv⟩ := h2.get hk
      obtain ⟨v', hv', rv'⟩ := h2'.get hk'
      have hl := SqL.of (K := T.K) (e2 _ _ (e1 _ _ h1))
      have hl' := SqL.of (K := T.K) (e2 _ _ (e1 _ _ h1'))
      refine ⟨⟨xs, ys, v, v', hl, hl', hv, hv'⟩, fun x H' y => ?_⟩
      obtain ⟨o, z, z', rfl, hn, rfl, y, y'⟩ := y
      have e3 := y xs hl
      rw [hv] at e3; cases e3
      have e4 := y' ys hl'
      rw [hv'] at e4; cases e4
      have sn := same_new (o := .tup [v, v']) (e2.free hn)
      exact ⟨_, .new e2 hn, .tup (SqT.of upd_same) (.cons ((rv.mono e1).mono sn) (.cons ((rv'.mono e1).mono sn) .nil))⟩
    · refine ⟨xs, ys, SqL.of (e2 _ _ (e1 _ _ h1)), SqL.of (e2 _ _ (e1 _ _ h1')), ?_⟩
      rw [h2.length, h2'.length, zipD_length]; omega

/-! ### list comprehensions -/
def wipeS (r : Sls) : List Nat → Sls
  | [] => r
  | v :: vs => (wipeS r vs).set v .unk
theorem Sl.wipe (h : Sl T r σ G H) : ∀ vs : List Nat, Sl T (wipeS r vs) (L2.wipe σ vs) G H
  | [] => h
  | v :: vs => by
    have ih := Sl.wipe h vs
    refine ⟨by show (List.set _ _ _).length = (List.set _ _ _).length; rw [List.length_set, List.length_set]; exact ih.len, fun j s hs => ?_⟩
    by_cases hj : j = v
    · subst hj
      have e : (wipeS r (j :: vs)) = (wipeS r vs).set j .unk := rfl
      rw [e] at hs
      by_cases hl : j < (wipeS r vs).length
      · rw [List.getElem?_set_self hl] at hs; cases hs; trivial
      · rw [List.getElem?_eq_none (by rw [List.length_set]; omega)] at hs; cases hs
    · have e : (wipeS r (v :: vs)) = (wipeS r vs).set v .unk := rfl
      have e' : L2.wipe σ (v :: vs) = (L2.wipe σ vs).set v none := rfl
      rw [e, get_set hj] at hs
      rw [e', get_set hj]
      exact ih.at_ j s hs
theorem wipe_get {σ : St} : ∀ (vs : List Nat) (j : Nat), (L2.wipe σ vs)[j]? = if j ∈ vs ∧ j < σ.length then some none else σ[j]?
  | [], j => by simp [L2.wipe]
  | v :: vs, j => by
    have ih := wipe_get (σ := σ) vs j
    have e' : L2.wipe σ (v :: vs) = (L2.wipe σ vs).set v none := rfl
    rw [e']
    by_cases hj : j = v
    · subst hj
      by_cases hl : j < σ.length
      · rw [List.getElem?_set_self (by rw [wipe_length]; exact hl), if_pos ⟨List.mem_cons_self, hl⟩]
      · rw [List.getElem?_eq_none (by rw [List.length_set, wipe_length]; omega), if_neg (fun z => hl z.2), List.getElem?_eq_none (by omega)]
    · rw [get_set hj, ih]
      by_cases hm : j ∈ vs ∧ j < σ.length
      · rw [if_pos hm, if_pos ⟨List.mem_cons_of_mem _ hm.1, hm.2⟩]
      · rw [if_neg hm, if_neg (fun z => hm ⟨(List.mem_cons.mp z.1).resolve_left hj, z.2⟩)]
theorem Touch.wipe {ix vs : List Nat} {r' : Sls} {σ' : St} (t : Touch ix r (L2.wipe σ vs) r' σ') (h : ∀ i ∈ ix, i ∈ vs) : L2.wipe σ' vs = L2.wipe σ vs := by
  refine List.ext_getElem? fun j => ?_
  have el : σ'.length = σ.length := by rw [t.len, wipe_length]
  rw [wipe_get, wipe_get, el]
  by_cases hm : j ∈ vs ∧ j < σ.length
  · rw [if_pos hm, if_pos hm]
  · rw [if_neg hm, if_neg hm]
    by_cases hl : j < σ.length
    · have hv : j ∉ vs := fun z => hm ⟨z, hl⟩
      rw [t.out j (fun z => hv (h j z)), wipe_get, if_neg hm]
    · rw [List.getElem?_eq_none (by omega), List.getElem?_eq_none (by omega)]
/-- a clause's tests -/
def DTs (C : CS T) (ifs : List Expr) (r : Sls) (b : Bool) : Prop := ∃ t, (∀ X, C.S X → PTs X ifs t) ∧ EvB T r t b
theorem dts_nil : DTs C [] r true := ⟨tYes, fun X hX => pts_nil, fun σ G H Q e s q => q G H (.refl e)⟩
theorem dts_one {x : Bool} (h : DT C c r x) : DTs C [c] r x := let ⟨t, p, ev⟩ := h; ⟨t, fun X hX => pts_one (p X hX), ev⟩
def scopeOf (tab : List (Str × NameKind)) : Scope := { kind := .function, names := tab, isGenerator := false, isCoroutine := false }
theorem blk_of {X : Cx} {scope : Scope} {own : List (Str × Nat)} (hX : C.S X) (h : blkC C.N (scopeOf C.tab) scope own = true) : BlkOk X.N X.env.scope scope own := by
  have c := C.ok X hX
  refine blkOk_by ?_
  rw [c.eN]
  unfold blkC at h ⊢
  rw [c.etab]
  exact h
/-- what a comprehension gives: by each item, perhaps -/
inductive Gives (P : Nat → PyData → Option PyData → Prop) : Nat → List PyData → List PyData → Prop
  | nil {i} : Gives P i [] []
  | yes {i d ds y ys} : P i d (some y) → Gives P (i + 1) ds ys → Gives P i (d :: ds) (y :: ys)
  | no {i d ds ys} : P i d none → Gives P (i + 1) ds ys → Gives P i (d :: ds) ys
/-- one turn of a comprehension's block -/
def LcTurn (C : CS T) (tg elt : Expr) (ifs : List Expr) (r : Sls) (vs : List Nat) (d : PyData) (o : Option PyData) : Prop :=
  ∃ r2 ix, DG C tg (wipeS r vs) d r2 ix ∧ (∀ i ∈ ix, i ∈ vs) ∧ match o with
    | some y => DTs C ifs r2 true ∧ DE C elt r2 y
    | none => DTs C ifs r2 false
theorem gives_length {P : Nat → PyData → Option PyData → Prop} : ∀ {i : Nat} {ds ys : List PyData}, Gives P i ds ys → ys.length ≤ ds.length
  | _, _, _, .nil => Nat.le_refl _
  | _, _, _, .yes _ g => Nat.succ_le_succ (gives_length g)
  | _, _, _, .no _ g => Nat.le_succ_of_le (gives_length g)
theorem gives_split {P : Nat → PyData → Option PyData → Prop} : ∀ {i : Nat} {ds ys : List PyData} (j : Nat) {d : PyData}, Gives P i ds ys → ds[j]? = some d → ∃ ys1 ys2 o, ys = ys1 ++ (match o with | some y => y :: ys2 | none => ys2) ∧ P (i + j) d o ∧ Gives P i (ds.take j) ys1 ∧ Gives P (i + j + 1) (ds.drop (j + 1)) ys2
  | _, _, _, _, _, .nil, h => by simp at h
  | i, _, _, 0, d, .yes p g, h => by
    simp at h; subst h
    exact ⟨[], _, some _, rfl, p, .nil, g⟩
  | i, _, _, 0, d, .no p g, h => by
    simp at h; subst h
    exact ⟨[], _, none, rfl, p, .nil, g⟩
  | i, _, _, j + 1, d, .yes p g, h => by
    obtain ⟨ys1, ys2, o, e, h1, h2, h3⟩ := gives_split j g (by simpa using h)
    exact ⟨_ :: ys1, ys2, o, by rw [e]; rfl, by rw [show i + (j + 1) = i + 1 + j by omega]; exact h1, .yes p h2, by rw [show i + (j + 1) + 1 = i + 1 + j + 1 by omega]; exact h3⟩
  | i, _, _, j + 1, d, .no p g, h => by
    obtain ⟨ys1, ys2, o, e, h1, h2, h3⟩ := gives_split j g (by simpa using h)
    exact ⟨ys1, ys2, o, e, by rw [show i + (j + 1) = i + 1 + j by omega]; exact h1, .no p h2, by rw [show i + (j + 1) + 1 = i + 1 + j + 1 by omega]; exact h3⟩
theorem lc_read {its ys : List PyData} {vs : List Nat} {wi : TI} {g : TG} {tt : TT} {te : TE} {elt : Expr} {ifs : List Expr} {CB : CS T}
    (hi : ∀ (σ : St) (G H : Hp) (R : It → Hp → Prop), Same G H → Sl T r σ G H → (∀ J G' H', Ext G H G' H' → WalkD T J its G' H' → R J H') → wi σ H R)
    (hl : its.length ≤ 1000000)
    (hg : g = fun v σ H Q => ∃ g', (∀ X, CB.S X → PG X tg g') ∧ g' v σ H Q) (ht : tt = fun σ H Q => ∃ t', (∀ X, CB.S X → PTs X ifs t') ∧ t' σ H Q) (he : te = fun σ H Q => ∃ t', (∀ X, CB.S X → PE X elt t') ∧ t' σ H Q)
    (hb : Gives (fun _ => LcTurn CB tg elt ifs r vs) 0 its ys) : EvN T r (tLc wi g tt te vs) ys := by
  intro σ G H Q e s q
  refine hi σ G H _ e s fun J G1 H1 x1 W D hD => ?_
  have W0 : Ext G H G1 (upd H1 D (.lst [])) := x1.trans (.hid x1.gh hD)
  refine ⟨fun i m H' => m = its.length - i ∧ i ≤ its.length ∧ ∃ G' acc ys1 ys2, Ext G H G' H' ∧ Same G1 G' ∧ G' D = none ∧ H' D = some (.lst acc) ∧ RpAll T G' acc ys1 ∧ ys = ys1 ++ ys2 ∧ acc.length ≤ i ∧ Gives (fun _ => LcTurn CB tg elt ifs r vs) i (its.drop i) ys2,
    ⟨its.length, by omega, Nat.zero_le _, G1, [], [], ys, W0, Same.refl _, x1.gh.free hD, upd_same, .nil, rfl, Nat.le_refl _, by simpa using hb⟩, ?_⟩
  rintro i m H' ⟨rfl, hle, G', acc, ys1, ys2, x2, sG, hG, hH, ra, ey, hal, gv⟩
  by_cases hlt : i < its.length
  · have e1 := List.getElem?_eq_getElem hlt
    have hdrop : its.drop i = its[i] :: its.drop (i + 1) := List.drop_eq_getElem_cons hlt
    rw [hdrop] at gv
    obtain ⟨hgo, hy⟩ := W.go i its[i] G' H' e1 sG x2.gh
    refine .inr ⟨hgo, fun H2 => ∃ G2 acc ys1 ys2, Ext G H G2 H2 ∧ Same G1 G2 ∧ G2 D = none ∧ H2 D = some (.lst acc) ∧ RpAll T G2 acc ys1 ∧ ys = ys1 ++ ys2 ∧ acc.length ≤ i + 1 ∧ Gives (fun _ => LcTurn CB tg elt ifs r vs) (i + 1) (its.drop (i + 1)) ys2, fun H2 h2 => ⟨its.length - (i + 1), by omega, rfl, hlt, h2⟩, fun x H2 y => ?_⟩
    obtain ⟨G3, x3, r3⟩ := hy x H2 y
    have x23 := x2.trans x3
    have hH3 := x3.h _ _ hH
    have hG3 := x3.sep _ _ hH hG
    subst hg ht he
    have fin : ∀ o, LcTurn CB tg elt ifs r vs its[i] o → (∀ G4 H4, Ext G3 H2 G4 H4 → o = none → ∃ G2 acc ys1 ys2, Ext G H G2 H4 ∧ Same G1 G2 ∧ G2 D = none ∧ H4 D = some (.lst acc) ∧ RpAll T G2 acc ys1 ∧ ys = ys1 ++ ys2 ∧ acc.length ≤ i + 1 ∧ Gives (fun _ => LcTurn CB tg elt ifs r vs) (i + 1) (its.drop (i + 1)) ys2) →
        (∀ G4 H4 y v, Ext G3 H2 G4 H4 → o = some y → Rp T G4 v y → ∃ acc', H4 D = some (.lst acc') ∧ acc'.length < sizeLine ∧ ∃ G2 acc ys1 ys2, Ext G H G2 (upd H4 D (.lst (acc' ++ [v]))) ∧ Same G1 G2 ∧ G2 D = none ∧ (upd H4 D (.lst (acc' ++ [v]))) D = some (.lst acc) ∧ RpAll T G2 acc ys1 ∧ ys = ys1 ++ ys2 ∧ acc.length ≤ i + 1 ∧ Gives (fun _ => LcTurn CB tg elt ifs r vs) (i + 1) (its.drop (i + 1)) ys2) →
        ∃ g', (∀ X, CB.S X → PG X tg g') ∧ g' x (L2.wipe σ vs) H2 fun σ2 H3 => L2.wipe σ2 vs = L2.wipe σ vs ∧ ∃ t', (∀ X, CB.S X → PTs X ifs t') ∧ t' σ2 H3 fun b H4 =>
          if b = true then (∃ u', (∀ X, CB.S X → PE X elt u') ∧ u' σ2 H4 fun y H5 => ∃ acc, H5 D = some (.lst acc) ∧ acc.length < sizeLine ∧ ∃ G2 acc' ys1 ys2, Ext G H G2 (upd H5 D (.lst (acc ++ [y]))) ∧ Same G1 G2 ∧ G2 D = none ∧ (upd H5 D (.lst (acc ++ [y]))) D = some (.lst acc') ∧ RpAll T G2 acc' ys1 ∧ ys = ys1 ++ ys2 ∧ acc'.length ≤ i + 1 ∧ Gives (fun _ => LcTurn CB tg elt ifs r vs) (i + 1) (its.drop (i + 1)) ys2)
          else ∃ G2 acc ys1 ys2, Ext G H G2 H4 ∧ Same G1 G2 ∧ G2 D = none ∧ H4 D = some (.lst acc) ∧ RpAll T G2 acc ys1 ∧ ys = ys1 ++ ys2 ∧ acc.length ≤ i + 1 ∧ Gives (fun _ => LcTurn CB tg elt ifs r vs) (i + 1) (its.drop (i + 1)) ys2 := by
      intro o ⟨r2, ix, ⟨g', pg, eg⟩, hix, ho⟩ hno hyes
      refine ⟨g', pg, eg _ G3 H2 x _ x3.gh ((s.mono x23).wipe vs) r3 fun σ2 s2 t2 => ⟨t2.wipe hix, ?_⟩⟩
      cases o with
      | none =>
        obtain ⟨t', pt, et⟩ := ho
        refine ⟨t', pt, et σ2 G3 H2 _ x3.gh s2 fun G4 H4 x4 => ?_⟩
        rw [if_neg (by decide)]
        exact hno G4 H4 x4 rfl
      | some z =>
        obtain ⟨⟨t', pt, et⟩, u', pu, eu⟩ := ho
        refine ⟨t', pt, et σ2 G3 H2 _ x3.gh s2 fun G4 H4 x4 => ?_⟩
        rw [if_pos rfl]
        exact ⟨u', pu, eu σ2 G4 H4 _ x4.gh (s2.mono x4) fun v G5 H5 x5 r5 => hyes G5 H5 z v (x4.trans x5) rfl r5⟩
    cases gv with
    | no p g =>
      refine fin none p (fun G4 H4 x4 _ => ?_) (fun _ _ _ _ _ z => nomatch z)
      exact ⟨G4, acc, ys1, ys2, x23.trans x4, (sG.trans x3.g).trans x4.g, x4.sep _ _ hH3 hG3, x4.h _ _ hH3, (ra.mono x3.g).mono x4.g, ey, by omega, g⟩
    | @yes _ _ _ z zs p g =>
      refine fin (some z) p (fun _ _ _ w => nomatch w) (fun G4 H4 y v x4 ez rv => ?_)
      cases ez
      have hH4 := x4.h _ _ hH3
      have hG4 := x4.sep _ _ hH3 hG3
      have x24 := x23.trans x4
      have hn0 : H D = none := x1.h.free hD
      refine ⟨acc, hH4, smallLt (by omega), G4, acc ++ [v], ys1 ++ [z], zs, ⟨x24.g, fun b u e => ?_, fun b u e => ?_, x24.sep⟩, (sG.trans x3.g).trans x4.g, hG4, upd_same, ((ra.mono x3.g).mono x4.g).snoc rv, by rw [ey, List.append_assoc]; rfl, by rw [List.length_append, List.length_singleton]; omega, g⟩
      · rw [upd_ne (ne_of_none e hn0)]; exact x24.h b u e
      · rw [upd_ne (ne_of_none e hG4)]; exact x24.gh b u e
  · have ei : i = its.length := by omega
    subst ei
    rw [List.drop_length] at gv
    cases gv
    rw [List.append_nil] at ey
    subst ey
    exact .inl ⟨W.stop G' H' sG x2.gh, q D acc G' H' (x1.h.free hD) x2 hG hH ra⟩
/-- [elt for tg in iter if ..] -/
theorem dn_lc {its ys : List PyData} {elt iter : Expr} {ifs : List Expr} {scope : Scope} (own : List (Str × Nat)) (hi : DI C tg iter r its) (hl : its.length ≤ 1000000)
    (hb : Gives (fun _ => LcTurn (C.blk scope) tg elt ifs r (own.map (·.2))) 0 its ys) (hk : scope.kind = .function := by rfl) (hok : blkC C.N (scopeOf C.tab) scope own = true := by first | decide +kernel | (dsimp only [CS.blk]; decide +kernel))
    (hs : ∀ (env : Env) (x : Value), foldedSetIterable iter env x = pure x := by intro _ _; rfl) : DN C (.ListComp elt [⟨tg, iter, ifs, 0⟩] scope pos) r ys := by
  obtain ⟨wi, pi, ei⟩ := hi
  let g : TG := fun v σ H Q => ∃ g', (∀ X, (C.blk scope).S X → PG X tg g') ∧ g' v σ H Q
  let tt : TT := fun σ H Q => ∃ t', (∀ X, (C.blk scope).S X → PTs X ifs t') ∧ t' σ H Q
  let te : TE := fun σ H Q => ∃ t', (∀ X, (C.blk scope).S X → PE X elt t') ∧ t' σ H Q
  refine ⟨tLc wi g tt te (own.map (·.2)), fun X hX => ?_, lc_read ei hl rfl rfl rfl hb⟩
  have c := C.ok X hX
  have mem : ∀ (s : Shared) (H : Hp) (A : Addr) (cl : List (Str × Addr)) (fp : List Addr), (C.blk scope).S (X.blk s H scope (compEnvC scope cl A X.env) fp) := fun s H A cl fp => ⟨hk, X, s, H, A, cl, fp, hX, rfl⟩
  exact pe_lc c.calm (by rw [c.eN]; exact c.nd) (pi X hX) (blk_of hX hok)
    (fun s H A cl fp => ⟨fun pins s σ H v u Q I rv ⟨g', p', h'⟩ => (p' _ (mem _ _ _ _ _)).run pins s σ H v u Q I rv h'⟩)
    (fun s H A cl fp => ⟨fun pins s σ H Q I ⟨g', p', h'⟩ => (p' _ (mem _ _ _ _ _)).run pins s σ H Q I h'⟩)
    (fun s H A cl fp => ⟨fun pins s σ H Q I ⟨g', p', h'⟩ => (p' _ (mem _ _ _ _ _)).run pins s σ H Q I h'⟩) (hs X.env)
/-- y = [elt for tg in iter if ..] on one line, y a local: owned -/
theorem ds_newLc {its ys : List PyData} {elt iter : Expr} {ifs : List Expr} {scope : Scope} {y : Str} {py spos : Pos} (i : Nat) (own : List (Str × Nat)) (hi : DI C tg iter r its) (hl : its.length ≤ 1000000)
    (hb : Gives (fun _ => LcTurn (C.blk scope) tg elt ifs r (own.map (·.2))) 0 its ys) (hN : C.N[i]? = some y := by rfl) (hy : C.tab.lookup y = some .local := by rfl) (hln : (py.line == pos.line) = true := by rfl)
    (ha : (scope.names.any fun (n, k) => n == y && (k == .local || k == .cell)) = false := by decide +kernel) (hk : scope.kind = .function := by rfl) (hok : blkC C.N (scopeOf C.tab) scope own = true := by first | decide +kernel | (dsimp only [CS.blk]; decide +kernel))
    (hs : ∀ (env : Env) (x : Value), foldedSetIterable iter env x = pure x := by intro _ _; rfl) : DS C (.Assign [.Name y py] (.ListComp elt [⟨tg, iter, ifs, 0⟩] scope pos) spos) r R (r.set i (.own ys)) := by
  obtain ⟨wi, pi, ei⟩ := hi
  let g : TG := fun v σ H Q => ∃ g', (∀ X, (C.blk scope).S X → PG X tg g') ∧ g' v σ H Q
  let tt : TT := fun σ H Q => ∃ t', (∀ X, (C.blk scope).S X → PTs X ifs t') ∧ t' σ H Q
  let te : TE := fun σ H Q => ∃ t', (∀ X, (C.blk scope).S X → PE X elt t') ∧ t' σ H Q
  refine ⟨tAsg (tLc wi g tt te (own.map (·.2))) (gName i), fun X hX => ?_, fun G0 H0 σ G H D h q _ => ?_⟩
  · have c := C.ok X hX
    have mem : ∀ (s : Shared) (H : Hp) (A : Addr) (cl : List (Str × Addr)) (fp : List Addr), (C.blk scope).S (X.blk s H scope (compEnvC scope cl A X.env) fp) := fun s H A cl fp => ⟨hk, X, s, H, A, cl, fp, hX, rfl⟩
    have hyl : X.env.scope.names.lookup y = some .local := by rw [c.etab]; exact hy
    exact ps_setLc c.calm (by rw [c.eN]; exact c.nd) (by rw [c.eN]; exact hN) hyl (sw_true c.fk hyl hln ha) (pi X hX) (blk_of hX hok)
      (fun s H A cl fp => ⟨fun pins s σ H v u Q I rv ⟨g', p', h'⟩ => (p' _ (mem _ _ _ _ _)).run pins s σ H v u Q I rv h'⟩)
      (fun s H A cl fp => ⟨fun pins s σ H Q I ⟨g', p', h'⟩ => (p' _ (mem _ _ _ _ _)).run pins s σ H Q I h'⟩)
      (fun s H A cl fp => ⟨fun pins s σ H Q I ⟨g', p', h'⟩ => (p' _ (mem _ _ _ _ _)).run pins s σ H Q I h'⟩) (hs X.env)
  · refine lc_read ei hl rfl rfl rfl hb σ G H _ h.ext.gh h.sl fun o xs G1 H1 ho x1 hg hh ra => ?_
    have h' := h.mono x1
    exact q _ G1 H1 (h'.setOwn (h.fresh ho (.inl ⟨_, rfl⟩) x1) ⟨o, xs, rfl, hg, hh, ra⟩)
/-- by items that are made alike -/
theorem gives_map {α : Type} {P : Nat → PyData → Option PyData → Prop} {enc : α → PyData} {f : α → PyData} : ∀ (xs : List α) (i : Nat), (∀ j x, xs[j]? = some x → P (i + j) (enc x) (some (f x))) → Gives P i (xs.map enc) (xs.map f)
  | [], _, _ => .nil
  | x :: xs, i, h => .yes (h 0 x rfl) (gives_map xs (i + 1) fun j y hy => by
      have := h (j + 1) y (by simpa using hy)
      rw [show i + (j + 1) = i + 1 + j by omega] at this
      exact this)
theorem gives_filter {α : Type} {P : Nat → PyData → Option PyData → Prop} {enc : α → PyData} {f : α → PyData} {p : α → Bool} : ∀ (xs : List α) (i : Nat), (∀ j x, xs[j]? = some x → P (i + j) (enc x) (if p x = true then some (f x) else none)) → Gives P i (xs.map enc) ((xs.filter p).map f)
  | [], _, _ => .nil
  | x :: xs, i, h => by
    have h0 := h 0 x rfl
    have ht := gives_filter (f := f) (p := p) xs (i + 1) fun j y hy => by
      have := h (j + 1) y (by simpa using hy)
      rw [show i + (j + 1) = i + 1 + j by omega] at this
      exact this
    by_cases hp : p x = true
    · rw [if_pos hp] at h0
      rw [List.filter_cons_of_pos hp]
      exact .yes h0 ht
    · rw [if_neg hp] at h0
      rw [List.filter_cons_of_neg hp]
      exact .no h0 ht
end
end DL

/-! DL, part J: defs, their promises by data, their calls. -/
namespace DL
open PySem PySem.Spec L2
open PyProof.Rows hiding St
abbrev DSpec := List PyData → PyData → Prop
/-- called with data as told, it hands back the datum; what stood stands -/
def spD (T : Tx) (S : DSpec) : Sp := fun vs H Q _ => ∃ G ds d, S ds d ∧ Same G H ∧ RpAll T G vs ds ∧ ∀ v G' H', Ext G H G' H' → Rp T G' v d → Q v H'
structure DFn (T : Tx) (k : Nat) (x : Str) (S : DSpec) : Prop where
  ex : ∃ f fd ps, FnOk T.P T.w T.K T.mg T.base CX0 k f fd ps (spD T S) ∧ T.mg x = some (.ref f) ∧ PySem.W.keepIn T.K (.ref f) = true ∧ Binds T.K fd ps []
section
variable {T : Tx} {C : CS T} {r : Sls} {e : Expr} {es : List Expr} {pos p : Pos} {d : PyData} {ds : List PyData}
theorem fnAt {X : Cx} {CX : CXT} {k : Nat} {f : Addr} {fd : FuncData} {ps : List Str} {sp : Sp} (hX : C.S X) (F : FnOk T.P T.w T.K T.mg T.base CX k f fd ps sp) : FnOk X.prog X.w X.K X.mg X.base CX k f fd ps sp := by
  have c := C.ok X hX
  rw [c.eP, c.ew, c.eK, c.emg, c.ebase]
  exact F
theorem de_call {k : Nat} {x : Str} {S : DSpec} (F : DFn T k x S) (ha : DAs C (e :: es) r ds) (hS : S ds d) (hk : k ≤ C.k := by first | decide | (dsimp only [CS.blk]; decide)) (hg : C.tab.lookup x = some .globalImplicit := by rfl) (hdb : (x == ("__debug__" : Str)) = false := by decide)
    (he : ∀ env : Env, starEach (e :: es) env = (false, eval e env) :: starEach es env := by intro _; rfl) (hpl : ∀ env : Env, (backTo pos (starEach es env)).any (·.1) = false := by intro _; rfl) : DE C (.Call (.Name x p) (e :: es) [] pos) r d := by
  obtain ⟨f, fd, ps, F, hm, hkp, hb⟩ := F.ex
  obtain ⟨ta, pa, ea⟩ := ha
  refine ⟨tCall (spD T S) [] E0 ta, fun X hX => ?_, fun σ G H Q e s q => ?_⟩
  · have c := C.ok X hX
    exact pe_call (fnAt hX F) (c.room.mono hk) (gl_of c.etab hg) (by rw [c.emg]; exact hm) (by rw [c.eK]; exact hkp) (by rw [c.eK]; exact hb) .nil pass0 (pa X hX) hdb (he X.env) (hpl X.env)
  · refine ea σ G H _ e s fun vs G1 H1 x1 r1 => ?_
    refine ⟨G1, ds, d, hS, x1.gh, by rw [List.append_nil]; exact r1, fun v G' H' x2 r2 => q v G' H' (x1.trans x2) r2⟩
def entry (n : Nat) (ds : List PyData) : Sls := ds.map .dat ++ List.replicate (n - ds.length) .unk
theorem sl_start {G H : Hp} {N : List Str} {vs : List V} (h : RpAll T G vs ds) : Sl T (entry N.length ds) (L2.start N vs) G H := by
  unfold entry L2.start
  refine ⟨by rw [List.length_append, List.length_append, List.length_map, List.length_map, List.length_replicate, List.length_replicate, h.length], fun i s hs => ?_⟩
  by_cases hi : i < ds.length
  · rw [List.getElem?_append_left (by rw [List.length_map]; exact hi), List.getElem?_map] at hs
    obtain ⟨d, hd, rfl⟩ := Option.map_eq_some_iff.mp hs
    obtain ⟨v, hv, rv⟩ := h.get hd
    refine ⟨v, ?_, rv⟩
    rw [List.getElem?_append_left (by rw [List.length_map, h.length]; exact hi), List.getElem?_map, hv]
    rfl
  · rw [List.getElem?_append_right (by rw [List.length_map]; omega)] at hs
    have := List.mem_of_getElem? hs
    rw [List.mem_replicate] at this
    rw [this.2]
    trivial
theorem own_start {N : List Str} {σ : St} {i : Nat} {a : Addr} : ¬ OwnAt (entry N.length ds) σ i a := by
  intro h
  unfold OwnAt at h
  cases e : (entry N.length ds)[i]? with
  | none => rw [e] at h; exact OwnV.none h
  | some s =>
    rw [e] at h
    have hm := List.mem_of_getElem? e
    unfold entry at hm
    rcases List.mem_append.mp hm with hm | hm
    · obtain ⟨_, _, e⟩ := List.mem_map.mp hm; subst e; exact OwnV.no (s := .dat _) trivial h
    · rw [List.mem_replicate] at hm; obtain ⟨_, e⟩ := hm; subst e; exact OwnV.no (s := .unk) trivial h
/-- a def of the text at its place -/
structure DefAt (T : Tx) (x : Str) (st : Stmt) (ps : List Str) : Prop where
  ex : ∃ f fd, Fun T.K x x st f fd ∧ T.mg x = some (.ref f) ∧ Binds T.K fd ps []
/-- THE RULE for a def -/
theorem dfn_of {x : Str} {st : Stmt} {N ps : List Str} {tab : List (Str × NameKind)} {k : Nat} {S : DSpec} (D : DefAt T x st ps) (Sc : FnScope N ps (defScope st)) (ht : (defScope st).names = tab) (hlen : ∀ ds d, S ds d → ds.length = ps.length)
    (body : ∀ ds d, S ds d → ∀ (Z : Cx → Prop) (ok : ∀ X, Z X → CxIs T N tab k (fun _ => true) X), DSs (CS.mk Z N tab k (fun _ => true) ok) (defBody st) (entry N.length ds) (fun z => z = d) [.bot]) : DFn T (k + 1) x S := by
  obtain ⟨f, fd, F, hm, hb⟩ := D.ex
  refine ⟨f, fd, ps, F.ok Sc (fun vs H Q E h => ?_) (fun cdv A outer s H vs Q E hr h => ?_), hm, F.kp, hb⟩
  · obtain ⟨G, ds, d, hS, _, hv, _⟩ := h
    rw [hv.length, hlen ds d hS]
  · obtain ⟨G, ds, d, hS, hG, hv, q⟩ := h
    obtain ⟨t, pt, et⟩ := body ds d hS (fun Y => Y = (cxOf CX0 T.P T.w T.K T.mg T.base N x (defScope st) f cdv A outer s H E).nox) (fun X e => by
      subst e
      exact ⟨rfl, rfl, rfl, rfl, rfl, Sc.nd, rfl, ht, Sc.kind, rfl, hr, fun _ _ => rfl, rfl⟩)
    refine ⟨t, pt _ rfl, et G H _ G H _ ⟨.refl hG, sl_start hv, fun i a h => absurd h own_start⟩ (fun σ' G' H' h' => ?_) (fun d' v G' H' e x r => by subst e; exact q v G' H' x r)⟩
    exact (h'.sl.at_ 0 .bot rfl).elim
end
end DL

/-! DL, part K: dicts whose keys are nested tuples. -/
namespace DL
open PySem PySem.Spec L2
open PyProof.Rows hiding St
/-! ### tables by keys -/
def getN {β : Type} (m : List (NestedKey × β)) (k : NestedKey) : Option β := (m.find? fun p => decide (p.1 = k)).map (·.2)
def putN {β : Type} (m : List (NestedKey × β)) (k : NestedKey) (v : β) : List (NestedKey × β) := if (getN m k).isSome = true then m.map (fun p => if p.1 = k then (p.1, v) else p) else m ++ [(k, v)]
def putKa (m : KA) (k : NestedKey) (b : Addr) (v : V) : KA := if ((m.find? fun p => decide (p.1 = k)).isSome) = true then m.map (fun p => if p.1 = k then (p.1, p.2.1, v) else p) else m ++ [(k, b, v)]
section
variable {T : Tx} {H H' : Hp} {k : NestedKey}
theorem ka_find {kas : KA} {xs : List (NestedKey × Addr × Value)} (r : Paired KaRel kas xs) : (kas.find? fun p => decide (p.1 = k)).isSome = (atKey xs k).isSome := by
  induction r with
  | nil => rfl
  | @cons p q ps qs h t ih =>
    obtain ⟨h1, h2, h3⟩ := h
    unfold atKey at ih ⊢
    rw [List.find?_cons, List.find?_cons]
    by_cases e : p.1 = k
    · rw [decide_eq_true e, decide_eq_true (h1.symm.trans e)]
      rfl
    · rw [decide_eq_false e, decide_eq_false (fun z => e (h1.trans z))]
      exact ih
theorem ka_put {kas : KA} {xs : List (NestedKey × Addr × Value)} (r : Paired KaRel kas xs) (b : Addr) {v : V} {u : Value} (rv : RelV v u) : Paired KaRel (putKa kas k b v) (storedH xs k b u) := by
  unfold putKa storedH
  rw [ka_find r]
  by_cases e : (atKey xs k).isSome = true
  · rw [if_pos e, if_pos e]
    clear e
    induction r with
    | nil => exact .nil
    | @cons p q ps qs h t ih =>
      obtain ⟨h1, h2, h3⟩ := h
      rw [List.map_cons, List.map_cons]
      refine .cons ?_ ih
      unfold putAt
      by_cases e : p.1 = k
      · rw [if_pos e, if_pos (h1.symm.trans e)]; exact ⟨h1, h2, rv⟩
      · rw [if_neg e, if_neg (fun z => e (h1.trans z))]; exact ⟨h1, h2, h3⟩
  · rw [if_neg e, if_neg e]
    exact Paired.snoc r ⟨rfl, rfl, rv⟩
theorem ka_len (kas : KA) (b : Addr) (v : V) : (putKa kas k b v).length ≤ kas.length + 1 := by
  unfold putKa
  split
  · rw [List.length_map]; omega
  · rw [List.length_append, List.length_singleton]; omega
theorem kd_find : ∀ {kas : KA} {kvs : List (NestedKey × PyData)}, RpKd T H kas kvs → (kas.find? fun p => decide (p.1 = k)).isSome = (getN kvs k).isSome
  | _, _, .nil => rfl
  | _, _, @RpKd.cons _ _ k' b v d kas kvs a1 a2 a3 a4 => by
    unfold getN
    rw [List.find?_cons, List.find?_cons]
    by_cases e : k' = k
    · rw [decide_eq_true e]; rfl
    · rw [decide_eq_false e]
      exact kd_find a4
theorem kd_look : ∀ {kas : KA} {kvs : List (NestedKey × PyData)} {xs : List (NestedKey × Addr × Value)} {d : PyData}, RpKd T H kas kvs → Paired KaRel kas xs → getN kvs k = some d → ∃ v p, atKey xs k = some p ∧ RelV v p.2 ∧ Rp T H v d
  | _, _, _, _, .nil, _, h => by simp [getN] at h
  | _, _, _, d, @RpKd.cons _ _ k' b v d' kas kvs a1 a2 a3 a4, .cons (b := q) ⟨h1, h2, h3⟩ t, h => by
    unfold getN at h
    unfold atKey
    rw [List.find?_cons] at h ⊢
    by_cases e : k' = k
    · have e' : q.1 = k := h1.symm.trans e
      rw [decide_eq_true e] at h
      rw [decide_eq_true e']
      have hd : d' = d := by simpa using h
      subst hd
      exact ⟨v, q.2, rfl, h3, a3⟩
    · have e' : ¬ q.1 = k := fun z => e (h1.trans z)
      rw [decide_eq_false e] at h
      rw [decide_eq_false e']
      exact kd_look a4 t h
theorem kd_put {b : Addr} {v : V} {d : PyData} (hb : Rp T H (.ref b) k.data) (h8 : k.depth ≤ 8) (hv : Rp T H v d) {kas : KA} {kvs : List (NestedKey × PyData)} (r : RpKd T H kas kvs) : RpKd T H (putKa kas k b v) (putN kvs k d) := by
  unfold putKa putN
  rw [kd_find r]
  by_cases e : (getN kvs k).isSome = true
  · rw [if_pos e, if_pos e]
    clear e
    induction r with
    | nil => exact .nil
    | @cons k' b' v' d' kas kvs a1 a2 a3 a4 ih =>
      rw [List.map_cons, List.map_cons]
      by_cases e : k' = k
      · rw [if_pos e, if_pos e]; exact .cons a1 a2 hv ih
      · rw [if_neg e, if_neg e]; exact .cons a1 a2 a3 ih
  · rw [if_neg e, if_neg e]
    clear e
    induction r with
    | nil => exact .cons hb h8 hv .nil
    | cons a1 a2 a3 a4 ih => exact .cons a1 a2 a3 ih
theorem kd_key : ∀ {kas : KA} {kvs : List (NestedKey × PyData)} {i : Nat} {k : NestedKey} {d : PyData}, RpKd T H kas kvs → kvs[i]? = some (k, d) → ∃ b v, kas[i]? = some (k, b, v) ∧ Rp T H (.ref b) k.data ∧ Rp T H v d
  | _, _, _, _, _, .nil, h => by simp at h
  | _, _, 0, _, _, .cons a1 a2 a3 a4, h => by
    simp at h
    obtain ⟨rfl, rfl⟩ := h
    exact ⟨_, _, rfl, a1, a3⟩
  | _, _, i + 1, _, _, .cons a1 a2 a3 a4, h => by
    obtain ⟨b, v, h1, h2⟩ := kd_key (i := i) a4 (by simpa using h)
    exact ⟨b, v, by simpa using h1, h2⟩
end

/-! ### keys and dicts in the library's words -/
section
variable {T : Tx} {X : Cx} {pins : List (Addr × Obj)} {σ : St} {H : Hp} {s : Shared}
mutual
theorem nested_of (I : Inv X pins σ H s) (eK : X.K = T.K) : ∀ (k : NestedKey) (v : V) (u : Value), Rp T H v k.data → RelV v u → NestedIs s.heap k u
  | .none, v, u, h, r => by simp only [NestedKey.data] at h; cases h; cases r; exact .none
  | .num i, v, u, h, r => by simp only [NestedKey.data] at h; cases h; obtain ⟨t, rfl⟩ := r; exact .int i t
  | .text x, v, u, h, r => by simp only [NestedKey.data] at h; cases h; obtain ⟨t, rfl⟩ := r; exact .text x t
  | .tup ks, v, u, h, r => by
    simp only [NestedKey.data] at h
    obtain ⟨a, xs, rfl, h1, h2⟩ := h.tup_inv
    cases r
    rw [← eK] at h1
    obtain ⟨its, rv, ⟨o, ho, hc, n, hd⟩, _⟩ := I.tuple h1
    exact .tup ho hc hd (by simpa using nesteds_of I eK ks xs its h2 rv)
theorem nesteds_of (I : Inv X pins σ H s) (eK : X.K = T.K) : ∀ (ks : List NestedKey) (vs : List V) (us : List Value), RpAll T H vs (NestedKey.datas ks) → Vals vs us → NestedAll s.heap ks us
  | [], _, _, h, r => by simp only [NestedKey.datas] at h; cases h; cases r; exact .nil
  | k :: ks, _, _, h, r => by
    simp only [NestedKey.datas] at h
    cases h with
    | cons a b =>
      cases r with
      | cons r1 r2 => exact .cons (nested_of I eK k _ _ a r1) (nesteds_of I eK ks _ _ b r2)
end
theorem nkey_of (I : Inv X pins σ H s) (eK : X.K = T.K) {k : NestedKey} {b : Addr} (h : Rp T H (.ref b) k.data) (h8 : k.depth ≤ 8) : (nestedKind X.prog X.w).is s.heap k b := ⟨nested_of I eK k _ _ h rfl, h8⟩
theorem kd_keys (I : Inv X pins σ H s) (eK : X.K = T.K) : ∀ {kas : KA} {kvs : List (NestedKey × PyData)} {xs : List (NestedKey × Addr × Value)}, RpKd T H kas kvs → Paired KaRel kas xs → ∀ x ∈ xs, (nestedKind X.prog X.w).is s.heap x.1 x.2.1
  | _, _, _, .nil, .nil, x, hx => nomatch hx
  | _, _, _, .cons a1 a2 a3 a4, .cons (b := q) ⟨h1, h2, h3⟩ t, x, hx => by
    rcases List.mem_cons.mp hx with e | hx
    · subst e
      rw [← h1, ← h2]
      exact nkey_of I eK a1 a2
    · exact kd_keys I eK a4 t x hx
/-- the dict at a in the library's words -/
theorem dict_of (I : Inv X pins σ H s) (eK : X.K = T.K) {a : Addr} {kas : KA} {kvs : List (NestedKey × PyData)} (h : Rd H a (dictO X.prog X.w a kas)) (r : RpKd T H kas kvs) :
    (a == sysModules) = false ∧ kas.length ≤ sizeLine ∧ ∃ xs, Paired KaRel kas xs ∧ s.heap.DictOfH (nestedKind X.prog X.w) a xs := by
  obtain ⟨h1, h2, xs, h3, o, es, ep, h4, h5, h6, h7, h8⟩ := dictO_at (h.ok I.hok)
  exact ⟨h1, h2, xs, h3, o, es, ep, h4, h5, h6, h7, kd_keys I eK r h3, h8⟩
theorem room_n {k : Nat} {A : Around} (r : Room k A) : (nestedKind X.prog X.w).room A.in1 := by
  show A.units + 1 + 8 < cLine
  have := r.un
  omega
end

/-! ### expressions -/
section
variable {T : Tx} {C : CS T} {r r1 : Sls} {R : PyData → Prop} {a b c e tg : Expr} {es ts : List Expr} {st : Stmt} {sts body : List Stmt} {pos p p2 pos' tpos : Pos} {d d' f : PyData} {ds ds' : List PyData} {kvs : List (NestedKey × PyData)} {k : NestedKey} {ks : List NestedKey}
/-- an expression whose value is a dict, owned or not -/
def DDict (C : CS T) (e : Expr) (r : Sls) (kvs : List (NestedKey × PyData)) : Prop := ∃ t, (∀ X, C.S X → PE X e t) ∧ ∀ (σ : St) (G H : Hp) (Q : VK), Same G H → Sl T r σ G H → (∀ o kas G' H', Ext G H G' H' → Rd H' o (dictO T.P T.w o kas) → RpKd T G' kas kvs → Q (.ref o) H') → t σ H Q
theorem dd_data (h : DE C e r (dictD kvs)) : DDict C e r kvs := by
  obtain ⟨t, pt, et⟩ := h
  refine ⟨t, pt, fun σ G H Q e s q => et σ G H _ e s fun v G1 H1 x1 r1 => ?_⟩
  obtain ⟨o, od, kas, rfl, h1, h2⟩ := r1.dicD_inv
  exact q o kas G1 H1 x1 (.inr ⟨od, x1.gh _ _ h1⟩) h2
theorem dd_own (i : Nat) {x : Str} (hr : r[i]? = some (.ownd kvs)) (hN : C.N[i]? = some x := by rfl) (hv : visB C.tab x = true := by rfl)
    (hd : (x == ("__debug__" : Str)) = false := by decide) (hcd : (x == ("__classdict__" : Str)) = false := by decide) : DDict C (.Name x pos) r kvs := by
  refine ⟨tVar i, fun X hX => ?_, fun σ G H Q e s q => ?_⟩
  · have c := C.ok X hX
    exact pe_var (by rw [c.eN]; exact hN) (vis_of (by rw [c.etab]; exact hv)) hd hcd
  · obtain ⟨o, kas, e1, e2, e3, e4⟩ := s.at_ i _ hr
    exact ⟨_, e1, q o kas G H (.refl e) (.inl e3) e4⟩
def rDIn (T : Tx) (neg : Bool) : R2 := fun x y H Q => ∃ b o k kas kvs, x = .ref b ∧ y = .ref o ∧ Rd H o (dictO T.P T.w o kas) ∧ RpKd T H kas kvs ∧ Rp T H (.ref b) (NestedKey.data k) ∧ k.depth ≤ 8 ∧ Q (.bl (if neg = true then !(getN kvs k).isSome else (getN kvs k).isSome)) H
theorem inD {X : Cx} (hX : C.S X) : OpR X (compareOp .In) (rDIn T false) := by
  have c := C.ok X hX
  intro pins s σ H x y v u Q I rx ry h
  obtain ⟨b, o, k, kas, kvs, rfl, rfl, h1, h2, h3, h4, q⟩ := h
  cases rx
  cases ry
  rw [← c.eP, ← c.ew] at h1
  obtain ⟨z1, z2, xs, z3, z4⟩ := dict_of I c.eK h1 h2
  refine wpAny_in_heap (room_n c.room) (nkey_of I c.eK h3 h4) z1 z4 ⟨.bl _, H, I.tok _, rfl, ?_⟩
  rw [← ka_find z3, kd_find h2]
  exact q
theorem notInD {X : Cx} (hX : C.S X) : OpR X (compareOp .NotIn) (rDIn T true) := by
  have c := C.ok X hX
  intro pins s σ H x y v u Q I rx ry h
  obtain ⟨b, o, k, kas, kvs, rfl, rfl, h1, h2, h3, h4, q⟩ := h
  cases rx
  cases ry
  rw [← c.eP, ← c.ew] at h1
  obtain ⟨z1, z2, xs, z3, z4⟩ := dict_of I c.eK h1 h2
  refine PyProof.Rows.wpAny_notIn_heap (room_n c.room) (nkey_of I c.eK h3 h4) z1 z4 ⟨.bl _, H, I.tok _, rfl, ?_⟩
  rw [← ka_find z3, kd_find h2]
  exact q
theorem de_inN (ha : DE C a r (NestedKey.tup ks).data) (hb : DDict C b r kvs) (h8 : (NestedKey.tup ks).depth ≤ 8) (hm : behindInMarks .In b = false := by rfl) : DE C (.Compare a [.In] [b] pos) r (.bool (getN kvs (.tup ks)).isSome) := by
  obtain ⟨ta, pa, ea⟩ := ha
  obtain ⟨tb, pb, eb⟩ := hb
  refine ⟨_, fun X hX => pe_cmpR (inD hX) (pa X hX) (pb X hX) hm, fun σ G H Q e s q => ?_⟩
  refine ea σ G H _ e s fun v G1 H1 x1 r1 => ?_
  refine eb σ G1 H1 _ x1.gh (s.mono x1) fun o kas G2 H2 x2 h1 h2 => ?_
  obtain ⟨b, xs, rfl, h3, h4⟩ := Rp.tup_inv (by simpa only [NestedKey.data] using r1)
  exact ⟨b, o, .tup ks, kas, kvs, rfl, rfl, h1, h2.mono x2.gh, (r1.mono x2.g).mono x2.gh, h8, q _ G2 H2 (x1.trans x2) (.bl _)⟩
theorem de_notInN (ha : DE C a r (NestedKey.tup ks).data) (hb : DDict C b r kvs) (h8 : (NestedKey.tup ks).depth ≤ 8) (hm : behindInMarks .NotIn b = false := by rfl) : DE C (.Compare a [.NotIn] [b] pos) r (.bool (!(getN kvs (.tup ks)).isSome)) := by
  obtain ⟨ta, pa, ea⟩ := ha
  obtain ⟨tb, pb, eb⟩ := hb
  refine ⟨_, fun X hX => pe_cmpR (notInD hX) (pa X hX) (pb X hX) hm, fun σ G H Q e s q => ?_⟩
  refine ea σ G H _ e s fun v G1 H1 x1 r1 => ?_
  refine eb σ G1 H1 _ x1.gh (s.mono x1) fun o kas G2 H2 x2 h1 h2 => ?_
  obtain ⟨b, xs, rfl, h3, h4⟩ := Rp.tup_inv (by simpa only [NestedKey.data] using r1)
  exact ⟨b, o, .tup ks, kas, kvs, rfl, rfl, h1, h2.mono x2.gh, (r1.mono x2.g).mono x2.gh, h8, q _ G2 H2 (x1.trans x2) (.bl _)⟩
/-- d[k], there -/
def tNGet (T : Tx) (td ty : TE) : TE := fun σ H Q => td σ H fun x H1 => ty σ H1 fun y H2 => ∃ b o k kas kvs, y = .ref b ∧ x = .ref o ∧ Rd H2 o (dictO T.P T.w o kas) ∧ RpKd T H2 kas kvs ∧ Rp T H2 (.ref b) (NestedKey.data k) ∧ k.depth ≤ 8 ∧
  ∃ b' v, (kas.find? fun p => decide (p.1 = k)) = some (k, b', v) ∧ Q v H2
theorem ka_at {kas : KA} {xs : List (NestedKey × Addr × Value)} {b : Addr} {v : V} (r : Paired KaRel kas xs) (h : (kas.find? fun p => decide (p.1 = k)) = some (k, b, v)) : ∃ u, atKey xs k = some (b, u) ∧ RelV v u := by
  induction r with
  | nil => simp at h
  | @cons p q ps qs hp t ih =>
    obtain ⟨h1, h2, h3⟩ := hp
    unfold atKey at ih ⊢
    rw [List.find?_cons] at h ⊢
    by_cases e : p.1 = k
    · rw [decide_eq_true e] at h
      rw [decide_eq_true (h1.symm.trans e)]
      have hp : p = (k, b, v) := by simpa using h
      subst hp
      refine ⟨q.2.2, ?_, h3⟩
      rw [Option.map_some]
      have e2 : b = q.2.1 := h2
      rw [e2]
    · rw [decide_eq_false e] at h
      rw [decide_eq_false (fun z => e (h1.trans z))]
      exact ih h
theorem kd_at {G : Hp} : ∀ {kas : KA} {kvs : List (NestedKey × PyData)} {d : PyData}, RpKd T G kas kvs → getN kvs k = some d → ∃ b v, (kas.find? fun p => decide (p.1 = k)) = some (k, b, v) ∧ Rp T G v d
  | _, _, _, .nil, h => by simp [getN] at h
  | _, _, d, @RpKd.cons _ _ k' b v d' kas kvs a1 a2 a3 a4, h => by
    unfold getN at h
    rw [List.find?_cons] at h ⊢
    by_cases e : k' = k
    · rw [decide_eq_true e] at h ⊢
      have hd : d' = d := by simpa using h
      subst hd e
      exact ⟨b, v, rfl, a3⟩
    · rw [decide_eq_false e] at h ⊢
      exact kd_at a4 h
theorem pe_nget {X : Cx} {td ty : TE} (hX : C.S X) (ho : PE X b td) (hi : PE X a ty) (hs : NoSl a) : PE X (.Subscript b a pos) (tNGet T td ty) := by
  have c := C.ok X hX
  refine ⟨fun pins s σ H Q I h => ?_⟩
  refine subD_of PySem.F.slot_dict_getitem.lookup hs (thn (ho.run pins s σ H _ I h) fun u s1 ⟨x, H1, I1, rx, q1⟩ => thn (hi.run pins s1 σ H1 _ I1 q1) fun iv s2 ⟨y, H2, I2, ry, q2⟩ => ?_)
  obtain ⟨b, o, k, kas, kvs, rfl, rfl, h1, h2, h3, h4, b', v, h5, q⟩ := q2
  cases rx
  cases ry
  rw [← c.eP, ← c.ew] at h1
  obtain ⟨z1, z2, xs, z3, z4⟩ := dict_of I2 c.eK h1 h2
  obtain ⟨u, h6, h7⟩ := ka_at z3 h5
  exact ⟨z4.typeIs, wpAny_getItem_heap (room_n c.room) (nkey_of I2 c.eK h3 h4) z4 h6 ⟨v, H2, I2.tok _, h7, q⟩⟩
theorem de_getN (hb : DDict C b r kvs) (ha : DE C a r (NestedKey.tup ks).data) (h8 : (NestedKey.tup ks).depth ≤ 8) (hd : getN kvs (.tup ks) = some d) (hs : NoSl a := by intro _ _; rfl) : DE C (.Subscript b a pos) r d := by
  obtain ⟨tb, pb, eb⟩ := hb
  obtain ⟨ta, pa, ea⟩ := ha
  refine ⟨tNGet T tb ta, fun X hX => pe_nget hX (pb X hX) (pa X hX) hs, fun σ G H Q e s q => ?_⟩
  refine eb σ G H _ e s fun o kas G1 H1 x1 h1 h2 => ?_
  refine ea σ G1 H1 _ x1.gh (s.mono x1) fun v G2 H2 x2 r2 => ?_
  obtain ⟨b, xs, rfl, h3, h4⟩ := Rp.tup_inv (by simpa only [NestedKey.data] using r2)
  obtain ⟨b', z, h5, h6⟩ := kd_at (h2.mono x2.g) hd
  refine ⟨b, o, .tup ks, kas, kvs, rfl, rfl, ?_, (h2.mono x2.g).mono x2.gh, r2.mono x2.gh, h8, b', z, h5, q z G2 H2 (x1.trans x2) h6⟩
  rcases h1 with h1 | ⟨od, h1⟩
  · exact .inl (x2.h _ _ h1)
  · exact .inr ⟨od, x2.h _ _ h1⟩
/-- d.get(k) -/
def rNGet1 (T : Tx) : V → List V → Hp → VK → Prop := fun x vs H Q => ∃ b o k kas kvs, vs = [.ref b] ∧ x = .ref o ∧ Rd H o (dictO T.P T.w o kas) ∧ RpKd T H kas kvs ∧ Rp T H (.ref b) (NestedKey.data k) ∧ k.depth ≤ 8 ∧
  ((kas.find? fun p => decide (p.1 = k)) = none → Q .non H) ∧ ∀ b' v, (kas.find? fun p => decide (p.1 = k)) = some (k, b', v) → Q v H
theorem mt_nget {X : Cx} (hX : C.S X) : MtR X "dict.get" (rNGet1 T) := by
  have c := C.ok X hX
  intro pins s σ H x vs v us Q I rx rv h
  obtain ⟨b, o, k, kas, kvs, rfl, rfl, h1, h2, h3, h4, q1, q2⟩ := h
  cases rx
  obtain ⟨u, rfl, ru⟩ := vals1 rv
  cases ru
  rw [← c.eP, ← c.ew] at h1
  obtain ⟨z1, z2, xs, z3, z4⟩ := dict_of I c.eK h1 h2
  refine call_meetsIn F.slot_dict_get z4.typeIs F.entry_dict_get (F.args_dict_get_2 _ _) (meetsH_dict_get (nestedKind X.prog X.w) o b z1) ⟨room_n c.room, k, xs, nkey_of I c.eK h3 h4, z4, ?_⟩
  cases hf : kas.find? fun p => decide (p.1 = k) with
  | none =>
    have e := ka_find (k := k) z3
    rw [hf] at e
    have e2 : atKey xs k = none := by
      cases z : atKey xs k with
      | none => rfl
      | some _ => rw [z] at e; cases e
    rw [e2]
    exact ⟨.non, H, I.tok _, rfl, q1 hf⟩
  | some p =>
    obtain ⟨k', b', v⟩ := p
    have ek : k' = k := of_decide_eq_true (by simpa using List.find?_some hf)
    subst ek
    obtain ⟨u, h6, h7⟩ := ka_at z3 hf
    rw [h6]
    exact ⟨v, H, I.tok _, h7, q2 b' v hf⟩
theorem de_get1 {apos cpos : Pos} (hb : DDict C b r kvs) (ha : DE C a r (NestedKey.tup ks).data) (h8 : (NestedKey.tup ks).depth ≤ 8) (hd : (getN kvs (.tup ks)).getD .none = d)
    (hs : ∀ env : Env, starEach [a] env = (false, eval a env) :: starEach [] env := by intro _; rfl) (hline : (apos.endLine == cpos.line) = true := by rfl)
    (hbase : ∀ env : Env, attributeBase b ("get" : Str) env (eval b env) = eval b env := by intro _; rfl)
    (hfew : ∀ env : Env, ((backTo cpos (starEach [a] env)).all (fun x => !x.1) && (backToKw cpos (keywordEach [] env)).all (fun x => x.1.isSome)
      && decide ([a].length + ([] : List Keyword).length + (if ([] : List Keyword).isEmpty then 0 else 1) < 30)) = true := by intro _; rfl) :
    DE C (.Call (.Attribute b ("get" : Str) apos) [a] [] cpos) r d := by
  obtain ⟨tb, pb, eb⟩ := hb
  obtain ⟨ta, pa, ea⟩ := ha
  let r0 : V → List V → Hp → VK → Prop := fun x vs H Q => ∃ o kas kvs, x = .ref o ∧ Rd H o (dictO T.P T.w o kas) ∧ RpKd T H kas kvs ∧ rNGet1 T x vs H Q
  refine ⟨fun σ H Q => tb σ H fun x H1 => (∃ o kas kvs, x = .ref o ∧ Rd H1 o (dictO T.P T.w o kas) ∧ RpKd T H1 kas kvs) ∧ ta σ H1 fun y H2 => rNGet1 T x [y] H2 Q, fun X hX => ?_, fun σ G H Q e s q => ?_⟩
  · have c := C.ok X hX
    refine ⟨fun pins s σ H Q I h => ?_⟩
    refine wpAny_Call_method_late (hbase X.env) (hfew X.env) hline rfl (thn ((pb X hX).run pins s σ H _ I h) fun v s1 ⟨x, H1, I1, r1, ⟨o, kas, kvs, ex, hd1, hk1⟩, q1⟩ => ?_)
    subst ex
    cases r1
    rw [← c.eP, ← c.ew] at hd1
    obtain ⟨z1, z2, xs, z3, z4⟩ := dict_of I1 c.eK hd1 hk1
    refine ⟨"dict", "dict.get", F.plainAttrs_dict, F.slot_dict_get, F.type_dict_get, z4.typeIs, fun b' q' => ?_, ?_⟩
    · cases q'
      obtain ⟨ob, _, _, h1, h2, _⟩ := z4
      exact ⟨ob, h1, h2.2.1⟩
    have hA := (pa_cons (pa X hX) pa_nil (hs X.env)).run cpos pins s1 σ H1 (fun vs H2 => rNGet1 T (.ref o) vs H2 Q) I1 q1
    rw [hs X.env] at hA ⊢
    refine Calls.callWith_builtin (by rfl) (Calls.evalArgs_plain ?_)
    exact thn hA fun us s2 ⟨vs, H2, I2, r2, q2⟩ => mt_nget hX pins s2 σ H2 (.ref o) vs _ us Q I2 rfl r2 q2
  · refine eb σ G H _ e s fun o kas G1 H1 x1 h1 h2 => ⟨⟨o, kas, kvs, rfl, h1, h2.mono x1.gh⟩, ?_⟩
    refine ea σ G1 H1 _ x1.gh (s.mono x1) fun v G2 H2 x2 r2 => ?_
    obtain ⟨b, xs, rfl, h3, h4⟩ := Rp.tup_inv (by simpa only [NestedKey.data] using r2)
    have h2' := h2.mono x2.g
    refine ⟨b, o, .tup ks, kas, kvs, rfl, rfl, ?_, h2'.mono x2.gh, r2.mono x2.gh, h8, fun hf => ?_, fun b' v hf => ?_⟩
    · rcases h1 with h1 | ⟨od, h1⟩
      · exact .inl (x2.h _ _ h1)
      · exact .inr ⟨od, x2.h _ _ h1⟩
    · have e1 := kd_find (k := .tup ks) h2'
      rw [hf] at e1
      have e2 : getN kvs (.tup ks) = none := by
        cases z : getN kvs (.tup ks) with
        | none => rfl
        | some _ => rw [z] at e1; cases e1
      rw [e2] at hd
      subst hd
      exact q _ G2 H2 (x1.trans x2) .non
    · cases z : getN kvs (.tup ks) with
      | none =>
        have e1 := kd_find (k := .tup ks) h2'
        rw [hf, z] at e1; cases e1
      | some d' =>
        rw [z] at hd
        obtain ⟨b2, v2, h5, h6⟩ := kd_at h2' z
        rw [hf] at h5
        cases h5
        have hd' : d' = d := hd
        subst hd'
        exact q _ G2 H2 (x1.trans x2) h6
/-- {} -/
theorem dm_nil : DM C (.Dict [] [] pos) r [] := by
  refine ⟨fun _ H Q => ∀ p, H p = none → Q (.ref p) (upd H p (dictO T.P T.w p [])), fun X hX => ?_, fun σ G H Q e s q p hp => ?_⟩
  · have c := C.ok X hX
    refine ⟨fun pins s σ H Q I h => ?_⟩
    have new : ObjOk X.prog X.w (upd H s.heap.objs.size (dictO T.P T.w s.heap.objs.size [])) (s.heap.push { cls := .type "dict", data := .dict #[] }) s.heap.objs.size (dictO T.P T.w s.heap.objs.size []) := by
      rw [c.eP, c.ew]
      exact dictO_ok ⟨beq_eq_false_iff_ne.mpr (Ne.symm (Nat.ne_of_lt I.big)), Nat.zero_le _, [], .nil, _, #[], 0, Heap.get?_push_size _ rfl, ⟨rfl, rfl, rfl⟩, rfl, rfl, List.nodup_nil⟩
    exact wpAny_Dict_empty ⟨.ref s.heap.objs.size, _, I.laid (a := s.heap.objs.size) (t' := s.toks) (fun _ _ q => Heap.get?_push_of_some _ q) (Nat.le_refl _) new, rfl, h _ (I.hok.fresh (Nat.le_refl _))⟩
  · exact q p [] G _ hp (.hid e hp) (e.free hp) upd_same .nil
/-- a name is given a new dict, owned -/
theorem ds_newD (i : Nat) {x : Str} (he : DM C e r kvs) (hN : C.N[i]? = some x := by rfl) (hx : locB C x = true := by rfl) (hs : ∀ env : Env, swapsWith e (some (.Name x pos')) pos.line env = pure false := by intro _; rfl) : DS C (.Assign [.Name x pos'] e pos) r R (r.set i (.ownd kvs)) := by
  obtain ⟨t, pt, et⟩ := he
  refine ⟨tAsg t (gName i), fun X hX => ?_, fun G0 H0 σ G H D h q _ => ?_⟩
  · have c := C.ok X hX
    exact ps_set (by rw [c.eN]; exact c.nd) (by rw [c.eN]; exact hN) (loc_of hX hx).1 (pt X hX) (hs X.env) (loc_of hX hx).2
  · refine et σ G H _ h.ext.gh h.sl fun o kas G1 H1 ho x1 hg hh ra => ?_
    exact q _ G1 H1 ((h.mono x1).setOwn (h.fresh ho (.inr ⟨_, rfl⟩) x1) ⟨o, kas, rfl, hg, hh, ra⟩)
/-- d[k] = e, d an owned dict -/
theorem ds_put (i : Nat) {x : Str} {tp np : Pos} (hr : r[i]? = some (.ownd kvs)) (he : DE C e r d) (ha : DE C a r (NestedKey.tup ks).data) (h8 : (NestedKey.tup ks).depth ≤ 8) (hl : kvs.length ≤ 10000000) (hN : C.N[i]? = some x := by rfl) (hv : visB C.tab x = true := by rfl)
    (hd : (x == ("__debug__" : Str)) = false := by decide) (hcd : (x == ("__classdict__" : Str)) = false := by decide) (hs : ∀ env : Env, swapsWith e (some (.Subscript (.Name x np) a tp)) pos.line env = pure false := by intro _; rfl) :
    DS C (.Assign [.Subscript (.Name x np) a tp] e pos) r R (r.set i (.ownd (putN kvs (.tup ks) d))) := by
  obtain ⟨t, pt, et⟩ := he
  obtain ⟨ta, pa, ea⟩ := ha
  refine ⟨fun D σ H => t σ H fun v H1 => tVar i σ H1 fun x H2 => ta σ H2 fun y H3 => ∃ b o k kas kvs, y = .ref b ∧ x = .ref o ∧ H3 o = some (dictO T.P T.w o kas) ∧ RpKd T H3 kas kvs ∧ Rp T H3 (.ref b) (NestedKey.data k) ∧ k.depth ≤ 8 ∧ kas.length < sizeLine ∧ D.nx σ (upd H3 o (dictO T.P T.w o (putKa kas k b v))), fun X hX => ?_, fun G0 H0 σ G H D h q _ => ?_⟩
  · have c := C.ok X hX
    have h1 : PE X (.Name x np) (tVar i) := pe_var (by rw [c.eN]; exact hN) (vis_of (by rw [c.etab]; exact hv)) hd hcd
    refine ⟨fun pins s σ H D I h => ?_⟩
    refine wpAny_Assign_Subscript (thn ((pt X hX).run pins s σ H _ I h) fun rr s1 ⟨v, H1, I1, rv, q1⟩ => thn (h1.run pins s1 σ H1 _ I1 q1) fun u s2 ⟨x, H2, I2, rx, q2⟩ => thn ((pa X hX).run pins s2 σ H2 _ I2 q2) fun iv s3 ⟨y, H3, I3, ry, q3⟩ => ?_) (hs X.env)
    obtain ⟨b, o, k, kas, kvs, rfl, rfl, h1, h2, h3, h4, h5, q⟩ := q3
    cases rx
    cases ry
    rw [← c.eP, ← c.ew] at h1
    obtain ⟨z1, z2, xs, z3, z4⟩ := dict_of I3 c.eK (.inl h1) h2
    have hlx : kas.length = xs.length := Paired.length z3
    refine wpAny_setItem_heap (hsz := by rw [← hlx]; exact z2) (room_n c.room) (nkey_of I3 c.eK h3 h4) z4 fun h' dd hs' => ?_
    obtain ⟨ob, es, ep, g1, g2, g3, g4, _, g5⟩ := dd
    refine ⟨σ, _, d_write (ob := dictO T.P T.w o (putKa kas k b v)) I3 (by rw [h1]; trivial) hs' ⟨ob, g1⟩ ?_, q⟩
    rw [c.eP, c.ew]
    refine dictO_ok ⟨z1, ?_, _, ka_put z3 b rv, ob, es, ep, g1, g2, g3, ?_, g5⟩
    · have := ka_len (k := k) kas b v; omega
    · rw [← c.eP, ← c.ew]; exact g4
  · obtain ⟨o, kas, e1, e2, e3, e4⟩ := h.sl.at_ i _ hr
    refine et σ G H _ h.ext.gh h.sl fun v G1 H1 x1 r1 => ⟨_, e1, ?_⟩
    refine ea σ G1 H1 _ x1.gh (h.sl.mono x1) fun y G2 H2 x2 r2 => ?_
    have x := x1.trans x2
    have h' := h.mono x
    obtain ⟨b, xs, rfl, h3, h4⟩ := Rp.tup_inv (by simpa only [NestedKey.data] using r2)
    have e4' := e4.mono x.g
    refine ⟨b, o, .tup ks, kas, kvs, rfl, rfl, x.h _ _ e3, e4'.mono x.gh, r2.mono x.gh, h8, ?_, ?_⟩
    · rw [e4.length]; exact Nat.lt_of_le_of_lt hl (by decide)
    · exact q σ G2 _ (h'.change ⟨e1, .inr ⟨kvs, hr⟩⟩ ⟨o, _, rfl, x.sep _ _ e3 e2, upd_same, kd_put r2 h8 (r1.mono x2.g) e4'⟩ (.inr ⟨_, rfl⟩))
end
end DL

/-! DL, part L: dicts frozen, walked. -/
namespace DL
open PySem PySem.Spec L2
open PyProof.Rows hiding St
section
variable {T : Tx} {C : CS T} {r r1 : Sls} {R : PyData → Prop} {a b c e tg : Expr} {es ts : List Expr} {st : Stmt} {sts body : List Stmt} {pos p p2 pos' tpos : Pos} {d d' f : PyData} {ds ds' : List PyData} {kvs : List (NestedKey × PyData)} {k : NestedKey} {ks : List NestedKey}
variable {G0 H0 G H G' H' : Hp} {σ : St}
/-! ### frozen -/
theorem Ext.frz {x : Addr} {o : HO} {u : HO} (e : Ext G H G' H') (h : H x = none) (hx : H' x = some u) (hg : G' x = none) : Ext G H (upd G' x o) (upd H' x o) :=
  ⟨fun b v q => by rw [upd_ne (ne_of_none (e.g b v q) hg)]; exact e.g b v q, fun b v q => by rw [upd_ne (ne_of_none q h)]; exact e.h b v q, same_upd2 e.gh, fun b v h1 h2 => by rw [upd_ne (ne_of_none h1 h)]; exact e.sep b v h1 h2⟩
theorem pe_frz {X : Cx} {t : TE} (h : PE X e t) : PE X e (fun σ H Q => t σ H fun v H1 => ∃ x u, H1 x = some u ∧ Mut (some u) ∧ ∀ od, Q v (upd H1 x (.frz od u))) := by
  refine ⟨fun pins s σ H Q I hw => thn (h.run pins s σ H _ I hw) fun v s1 ⟨z, H1, I1, r1, x, u, hx, mu, q⟩ => ?_⟩
  obtain ⟨od, I2⟩ := I1.lock hx mu
  exact ⟨z, _, I2, r1, q od⟩
theorem dm_e (h : DM C e r kvs) : DE C e r (dictD kvs) := by
  obtain ⟨t, pt, et⟩ := h
  refine ⟨_, fun X hX => pe_frz (pt X hX), fun σ G H Q e s q => ?_⟩
  refine et σ G H _ e s fun o kas G1 H1 ho x1 hg hh ra => ⟨o, _, hh, trivial, fun od => ?_⟩
  exact q _ _ _ (x1.frz ho hh hg) (Rp.dic_of upd_same (ra.mono (same_new hg)))
theorem Bs.freeze {i : Nat} {x : Addr} {kas : KA} {od : Obj} (h : Bs T G0 H0 r σ G H) (hi : r[i]? = some (.ownd kvs)) (e1 : σ[i]? = some (some (.ref x))) (e3 : H x = some (dictO T.P T.w x kas)) (e2 : G x = none) (e4 : RpKd T G kas kvs) :
    Bs T G0 H0 (r.set i (.dat (dictD kvs))) σ (upd G x (.frz od (dictO T.P T.w x kas))) (upd H x (.frz od (dictO T.P T.w x kas))) := by
  have hx : OwnAt r σ i x := .inl ⟨e1, .inr ⟨kvs, hi⟩⟩
  obtain ⟨q1, q2⟩ := h.own i x hx
  have sG := same_new (o := .frz od (dictO T.P T.w x kas)) e2
  refine h.put rfl (fun _ _ => rfl) (h.ext.frz q1 e3 e2) sG (fun j a hj ha => ?_) (fun _ => ⟨_, e1, Rp.dic_of upd_same (e4.mono sG)⟩) fun a ha => absurd ha (OwnV.no trivial)
  have hne : a ≠ x := fun z => by subst z; exact hj (q2 j ha)
  exact ⟨upd_ne hne, by rw [upd_ne hne]; exact (h.sl.there ha).1⟩
theorem pss_frz {X : Cx} {t : TS} (h : PSs X sts t) : PSs X sts (fun D σ H => ∃ x u, H x = some u ∧ Mut (some u) ∧ ∀ od, t D σ (upd H x (.frz od u))) := by
  refine ⟨fun pins s σ H D I ⟨x, u, hx, mu, q⟩ => ?_⟩
  obtain ⟨od, I2⟩ := I.lock hx mu
  exact h.run pins s σ _ D I2 (q od)
/-- an owned dict is data from here on -/
theorem dss_frz (i : Nat) (hi : r[i]? = some (.ownd kvs)) (h : DSs C sts (r.set i (.dat (dictD kvs))) R r1) : DSs C sts r R r1 := by
  obtain ⟨t, pt, et⟩ := h
  refine ⟨_, fun X hX => pss_frz (pt X hX), fun G0 H0 σ G H D h q qr => ?_⟩
  obtain ⟨x, kas, e1, e2, e3, e4⟩ := h.sl.at_ i _ hi
  exact ⟨x, _, e3, trivial, fun od => et G0 H0 σ _ _ D (h.freeze hi e1 e3 e2 e4) q qr⟩

/-! ### walked -/
def ItIt (o : Addr) (od : Obj) (P : Program) (w : World) (kas : KA) : It :=
  ⟨fun i H => H o = some (.frz od (dictO P w o kas)) ∧ i < kas.length, fun i H x H' => ∃ t k b v, kas[i]? = some (k, b, v) ∧ x = .ref t ∧ H t = none ∧ H' = upd H t (.tup [.ref b, v]), fun i H => H o = some (.frz od (dictO P w o kas)) ∧ kas.length ≤ i⟩
def ItVa (o : Addr) (od : Obj) (P : Program) (w : World) (kas : KA) : It :=
  ⟨fun i H => H o = some (.frz od (dictO P w o kas)) ∧ i < kas.length, fun i H x H' => H' = H ∧ ∃ k b, kas[i]? = some (k, b, x), fun i H => H o = some (.frz od (dictO P w o kas)) ∧ kas.length ≤ i⟩
def ItKe (o : Addr) (od : Obj) (P : Program) (w : World) (kas : KA) : It :=
  ⟨fun i H => H o = some (.frz od (dictO P w o kas)) ∧ i < kas.length, fun i H x H' => H' = H ∧ ∃ k b v, kas[i]? = some (k, b, v) ∧ x = .ref b, fun i H => H o = some (.frz od (dictO P w o kas)) ∧ kas.length ≤ i⟩
theorem ka_get {kas : KA} {xs : List (NestedKey × Addr × Value)} (r : Paired KaRel kas xs) : ∀ {i : Nat} {q : NestedKey × Addr × V}, kas[i]? = some q → ∃ z, xs[i]? = some z ∧ KaRel q z := by
  induction r with
  | nil => intro i q h; simp at h
  | cons h t ih =>
    intro i q hq
    cases i with
    | zero => simp at hq; subst hq; exact ⟨_, rfl, h⟩
    | succ i =>
      obtain ⟨z, h1, h2⟩ := ih (i := i) (q := q) (by simpa using hq)
      exact ⟨z, by simpa using h1, h2⟩
/-- a frozen dict in the library's words -/
theorem frz_of {X : Cx} {pins : List (Addr × Obj)} {s : Shared} {o : Addr} {od : Obj} {kas : KA} (I : L2.Inv X pins σ H s) (h : H o = some (.frz od (dictO X.prog X.w o kas))) :
    (o == sysModules) = false ∧ s.heap.get? o = some od ∧ od.ExactDict ∧ ∃ (es : Array DictEntry) (ep : Nat), od.data = .dict es ep ∧ es.size = kas.length ∧ ∀ (i : Nat) (k : NestedKey) (b : Addr) (v : V), kas[i]? = some (k, b, v) → ∃ en u, es[i]? = some en ∧ en.key = .ref b ∧ en.val = u ∧ RelV v u := by
  obtain ⟨h1, h2⟩ := I.hok o _ h
  obtain ⟨z1, z2, xs, z3, o', es, ep, h4, h5, h6, h7, h8⟩ := dictO_at h2
  rw [h1] at h4
  cases h4
  refine ⟨z1, h1, h5, es, ep, h6, ?_, fun i k b v e => ?_⟩
  · rw [size_of_entries h7]; exact (Paired.length z3).symm
  · obtain ⟨z, e1, e2, e3, e4⟩ := ka_get z3 e
    have e5 := entry_at h7 i
    rw [e1] at e5
    refine ⟨_, z.2.2, e5, ?_, rfl, e4⟩
    show Value.ref z.2.1 = _
    have e3' : b = z.2.1 := e3
    rw [e3']
theorem raw_of {X : Cx} {pins : List (Addr × Obj)} {s : Shared} {o : Addr} {od : Obj} {es : Array DictEntry} {ep : Nat} (h1 : s.heap.get? o = some od) (h2 : od.ExactDict) (h3 : od.data = .dict es ep) : s.heap.DictRaw o es ep := ⟨od, h1, h2, h3⟩
theorem same_ep {od : Obj} {es es' : Array DictEntry} {ep ep' : Nat} (h : od.data = .dict es ep) (h' : od.data = .dict es' ep') : es' = es ∧ ep' = ep := dict_ep h h'
variable {P : Program} {w : World} {K : PySem.W.Frag} {o : Addr} {od : Obj} {es0 : Array DictEntry} {ep : Nat} {kas : KA}
theorem turn_itV (it : Addr) (hod : od.data = .dict es0 ep) : Turn P w K tg (ItVa o od P w kas) [it] it (fun i h => h.IsValIter it o i kas.length ep) where
  mem := by simp
  obj := fun i h st b hb => by
    obtain rfl : b = it := by simpa using hb
    obtain ⟨oi, e, _, dd⟩ := st
    exact ⟨oi, e, fun v z => by rw [dd] at z; cases z⟩
  keep := fun i h h' st k => st.at fun oi e => k it (by simp) oi e
  item := by
    intro X hP hw hK hc i pins s σ H E I hf st hg
    subst hP hw hK
    obtain ⟨hd, hi⟩ := hg
    obtain ⟨f0, f1, f2, f3, f4, f5⟩ := hf it (by simp)
    obtain ⟨hs, hgd, hx, es', ep', hdt, hsz, ent⟩ := frz_of I hd
    obtain ⟨rfl, rfl⟩ := same_ep hod hdt
    obtain ⟨⟨k, b, v⟩, hkv⟩ : ∃ q, kas[i]? = some q := ⟨kas[i], List.getElem?_eq_getElem hi⟩
    obtain ⟨en, u, hen, hkey, hval, ru⟩ := ent i k b v hkv
    have hie : i < es'.size := by omega
    have een : es'[i] = en := Option.some.inj ((Array.getElem?_eq_getElem hie).symm.trans hen)
    rw [← hsz] at st
    refine wpAny_pyNext_values_item_raw st ⟨od, hgd, hx, hdt⟩ hie fun h' st' sb => ?_
    have I1 : L2.Inv X pins σ H { s with heap := h' } := I.turned (t' := s.toks) (fun b ob hb e => (sb.2 b hb).trans e) f0 f1 f3 f4 f5
    obtain ⟨oi, e, cc, dd⟩ := id st'
    refine ⟨_, rfl, go_of (s := { s with heap := h' }) e cc dd (by decide) ⟨v, H, I1, by rw [een, hval]; exact ru, ⟨rfl, k, b, hkv⟩, by rw [← hsz]; exact st', fun b hb => (hf b hb).1⟩⟩
  done := by
    intro X hP hw hK hc i pins s σ H E I hf st hg
    subst hP hw hK
    obtain ⟨hd, hi⟩ := hg
    obtain ⟨f0, f1, f2, f3, f4, f5⟩ := hf it (by simp)
    obtain ⟨hs, hgd, hx, es', ep', hdt, hsz, ent⟩ := frz_of I hd
    obtain ⟨rfl, rfl⟩ := same_ep hod hdt
    rw [← hsz] at st
    exact wpAny_pyNext_values_end_raw (I.ok.hd hc) st ⟨od, hgd, hx, hdt⟩ (by omega) fun h' eb => ⟨rfl, I.turned (t' := s.toks) (fun b ob hb e => eb b ob hb e) f0 f1 f3 f4 f5⟩
  self := fun A i s Q E st h => wpAny_pyIter_valiter st h
theorem turn_itK (it : Addr) (hod : od.data = .dict es0 ep) : Turn P w K tg (ItKe o od P w kas) [it] it (fun i h => h.IsKeyIter it o i kas.length ep) where
  mem := by simp
  obj := fun i h st b hb => by
    obtain rfl : b = it := by simpa using hb
    obtain ⟨oi, e, _, dd⟩ := st
    exact ⟨oi, e, fun v z => by rw [dd] at z; cases z⟩
  keep := fun i h h' st k => st.at fun oi e => k it (by simp) oi e
  item := by
    intro X hP hw hK hc i pins s σ H E I hf st hg
    subst hP hw hK
    obtain ⟨hd, hi⟩ := hg
    obtain ⟨f0, f1, f2, f3, f4, f5⟩ := hf it (by simp)
    obtain ⟨hs, hgd, hx, es', ep', hdt, hsz, ent⟩ := frz_of I hd
    obtain ⟨rfl, rfl⟩ := same_ep hod hdt
    obtain ⟨⟨k, b, v⟩, hkv⟩ : ∃ q, kas[i]? = some q := ⟨kas[i], List.getElem?_eq_getElem hi⟩
    obtain ⟨en, u, hen, hkey, hval, ru⟩ := ent i k b v hkv
    have hie : i < es'.size := by omega
    have een : es'[i] = en := Option.some.inj ((Array.getElem?_eq_getElem hie).symm.trans hen)
    rw [← hsz] at st
    refine wpAny_pyNext_keys_item_raw st ⟨od, hgd, hx, hdt⟩ hie fun h' st' sb => ?_
    have I1 : L2.Inv X pins σ H { s with heap := h' } := I.turned (t' := s.toks) (fun b ob hb e => (sb.2 b hb).trans e) f0 f1 f3 f4 f5
    obtain ⟨oi, e, cc, dd⟩ := id st'
    refine ⟨_, rfl, go_of (s := { s with heap := h' }) e cc dd (by decide) ⟨.ref b, H, I1, by rw [een]; exact hkey, ⟨rfl, k, b, v, hkv, rfl⟩, by rw [← hsz]; exact st', fun b hb => (hf b hb).1⟩⟩
  done := by
    intro X hP hw hK hc i pins s σ H E I hf st hg
    subst hP hw hK
    obtain ⟨hd, hi⟩ := hg
    obtain ⟨f0, f1, f2, f3, f4, f5⟩ := hf it (by simp)
    obtain ⟨hs, hgd, hx, es', ep', hdt, hsz, ent⟩ := frz_of I hd
    obtain ⟨rfl, rfl⟩ := same_ep hod hdt
    rw [← hsz] at st
    exact wpAny_pyNext_keys_end_raw (I.ok.hd hc) st ⟨od, hgd, hx, hdt⟩ (by omega) fun h' eb => ⟨rfl, I.turned (t' := s.toks) (fun b ob hb e => eb b ob hb e) f0 f1 f3 f4 f5⟩
  self := fun A i s Q E st h => wpAny_pyIter_keyiter st h
theorem turn_itI (it : Addr) (hod : od.data = .dict es0 ep) : Turn P w K (.Tuple ts kk' tpos) (ItIt o od P w kas) [it] it (fun i h => ∃ ok ov, IsItemIter h it o i kas.length ep ok ov) where
  mem := by simp
  obj := fun i h st b hb => by
    obtain rfl : b = it := by simpa using hb
    obtain ⟨ok, ov, e⟩ := st
    exact ⟨_, e, fun v z => nomatch z⟩
  keep := fun i h h' st k => let ⟨ok, ov, e⟩ := st; ⟨ok, ov, k it (by simp) _ e⟩
  item := by
    intro X hP hw hK hc i pins s σ H E I hf st hg
    subst hP hw hK
    obtain ⟨hd, hi⟩ := hg
    obtain ⟨hs, hgd, hx, es', ep', hdt, hsz, ent⟩ := frz_of I hd
    obtain ⟨rfl, rfl⟩ := same_ep hod hdt
    obtain ⟨⟨k, b, v⟩, hkv⟩ : ∃ q, kas[i]? = some q := ⟨kas[i], List.getElem?_eq_getElem hi⟩
    obtain ⟨en, u, hen, hkey, hval, ru⟩ := ent i k b v hkv
    have hie : i < es'.size := by omega
    have een : es'[i] = en := Option.some.inj ((Array.getElem?_eq_getElem hie).symm.trans hen)
    obtain ⟨ok, ov, he⟩ := st
    rw [← hsz] at he
    have hlt : it < s.heap.objs.size := Heap.lt_size he
    refine wpAny_pyNext_items_item_raw he ⟨od, hgd, hx, hdt⟩ hie fun h' ho hT hz hk => ?_
    rw [een, hkey, hval] at ho hT
    refine ⟨_, rfl, wpAny_letOwnedTupleGo_items (s := { s with heap := h' }) ho fun h'' he' sb => ?_⟩
    have hT2 : h''.get? s.heap.objs.size = some { cls := .type "tuple", data := .seq #[.ref b, u] } := (sb.2 _ (Nat.ne_of_gt hlt)).trans hT
    have new : ObjOk X.prog X.w (upd H s.heap.objs.size (.tup [.ref b, v])) h'' s.heap.objs.size (.tup [.ref b, v]) :=
      ⟨by show 2 ≤ sizeLine; decide, [.ref b, u], .cons rfl (.cons ru .nil), ⟨_, hT2, rfl, _, rfl⟩⟩
    have I1 : L2.Inv X pins σ (upd H s.heap.objs.size (.tup [.ref b, v])) { s with heap := h'' } :=
      I.turnedNew (t' := s.toks) (ch := [it]) (fun b ob hb e => (sb.2 b (by simpa using hb)).trans (hk b ob (by simpa using hb) e)) hf (Nat.le_refl _) new
    refine ⟨.ref s.heap.objs.size, _, I1, rfl, ⟨_, k, b, v, hkv, rfl, I.hok.fresh (Nat.le_refl _), rfl⟩, ⟨.ref b, u, by rw [← hsz]; exact he'⟩, fun c hc' => ?_⟩
    obtain rfl : c = it := by simpa using hc'
    rw [upd_ne (Nat.ne_of_lt hlt)]
    exact (hf c (by simp)).1
  done := by
    intro X hP hw hK hc i pins s σ H E I hf st hg
    subst hP hw hK
    obtain ⟨hd, hi⟩ := hg
    obtain ⟨f0, f1, f2, f3, f4, f5⟩ := hf it (by simp)
    obtain ⟨hs, hgd, hx, es', ep', hdt, hsz, ent⟩ := frz_of I hd
    obtain ⟨rfl, rfl⟩ := same_ep hod hdt
    obtain ⟨ok, ov, he⟩ := st
    rw [← hsz] at he
    exact wpAny_pyNext_items_end_raw (I.ok.hd hc) he ⟨od, hgd, hx, hdt⟩ (by omega) fun h' eb => ⟨rfl, I.turned (t' := s.toks) (fun b ob hb e => eb b ob hb e) f0 f1 f3 f4 f5⟩
  self := fun A i s Q E st h => let ⟨_, _, e⟩ := st; wpAny_pyIter_itemiter e h
/-- what a walk of a dict is read as -/
def iDk (J : Addr → Obj → KA → It) (T : Tx) (td : TE) : TI := fun σ H R => td σ H fun x H1 => ∃ o od kas, x = .ref o ∧ H1 o = some (.frz od (dictO T.P T.w o kas)) ∧ R (J o od kas) H1
end
section
variable {T : Tx} {C : CS T} {r r1 : Sls} {R : PyData → Prop} {a b c e tg : Expr} {es ts : List Expr} {pos p p2 pos' tpos : Pos} {kvs : List (NestedKey × PyData)} {kk : Nat} {apos cpos : Pos}
theorem pi_keN {X : Cx} {td : TE} (hX : C.S X) (he : PE X e td) : PI X tg e (iDk (fun o od kas => ItKe o od T.P T.w kas) T td) := by
  have c := C.ok X hX
  refine ⟨fun pins s σ H R I h => thn (he.run pins s σ H _ I h) fun u s1 ⟨x, H1, I1, rx, o, od, kas, ex, h1, q⟩ => ?_⟩
  subst ex
  cases rx
  rw [← c.eP, ← c.ew] at h1 q
  obtain ⟨hs, hgd, hx, es', ep', hdt, hsz, ent⟩ := frz_of I1 h1
  refine wpAny_pyIter_dict_raw hs ⟨od, hgd, hx, hdt⟩ (pi_one (tk := s1.toks) I1 _ (turn_itK _ hdt) ⟨_, Heap.get?_push_size _ rfl, rfl, ?_⟩ q)
  rw [hsz] <;> rfl
theorem pi_vaN {X : Cx} {td : TE} (hX : C.S X) (he : PE X e td) (hbase : attributeBase e ("values" : Str) X.env (eval e X.env) = eval e X.env) (hline : (apos.endLine == cpos.line) = true) : PI X tg (.Call (.Attribute e ("values" : Str) apos) [] [] cpos) (iDk (fun o od kas => ItVa o od T.P T.w kas) T td) := by
  have c := C.ok X hX
  refine ⟨fun pins s σ H R I h => ?_⟩
  refine wpAny_Call_method (T := "dict") (id := "dict.values") hbase rfl hline F.plainAttrs_dict F.slot_dict_values F.type_dict_values (thn (he.run pins s σ H _ I h) fun u s1 ⟨x, H1, I1, rx, o, od, kas, ex, h1, q⟩ => ?_)
  subst ex
  cases rx
  rw [← c.eP, ← c.ew] at h1 q
  obtain ⟨hs, hgd, hx, es', ep', hdt, hsz, ent⟩ := frz_of I1 h1
  have hraw : s1.heap.DictRaw o es' ep' := ⟨od, hgd, hx, hdt⟩
  refine ⟨hraw.typeIs, fun b q' => by cases q'; exact ⟨od, hgd, hx.2.1⟩, ?_⟩
  have I2 : L2.Inv X pins σ H1 { s1 with heap := s1.heap.push { cls := .type "dict_values", data := .fields #[.ref o] } } := I1.kept (t' := s1.toks) fun b ob q => Heap.get?_push_of_some _ q
  have fin : wpAny (model X.prog X.w) X.A (pyIter (.ref s1.heap.objs.size)) (PIE X pins σ tg R) X.xe { s1 with heap := s1.heap.push { cls := .type "dict_values", data := .fields #[.ref o] } } := by
    refine wpAny_pyIter_values_raw (d := o) ⟨_, Heap.get?_push_size _ rfl, rfl, rfl⟩ (hraw.at fun o e => Heap.get?_push_of_some _ e) (pi_one (tk := s1.toks) I2 _ (turn_itV _ hdt) ⟨_, Heap.get?_push_size _ rfl, rfl, ?_⟩ q)
    rw [hsz] <;> rfl
  show wpAny _ _ (callWith cpos (.builtin "dict.values") [.ref o] [] []) _ X.xe s1
  exact method_meetsIn F.slot_dict_values F.entry_dict_values rfl (PySem.evalArgs_none ⟨rfl, hraw.typeIs, F.args_dict_values_1 _, _, meets_dict_values_raw o hs, ⟨es', ep', hraw⟩, fin⟩)
theorem pi_itN {X : Cx} {td : TE} (hX : C.S X) (he : PE X e td) (hbase : attributeBase e ("items" : Str) X.env (eval e X.env) = eval e X.env) (hline : (apos.endLine == cpos.line) = true) : PI X (.Tuple ts kk tpos) (.Call (.Attribute e ("items" : Str) apos) [] [] cpos) (iDk (fun o od kas => ItIt o od T.P T.w kas) T td) := by
  have c := C.ok X hX
  refine ⟨fun pins s σ H R I h => ?_⟩
  refine wpAny_Call_method (T := "dict") (id := "dict.items") hbase rfl hline F.plainAttrs_dict F.slot_dict_items F.type_dict_items (thn (he.run pins s σ H _ I h) fun u s1 ⟨x, H1, I1, rx, o, od, kas, ex, h1, q⟩ => ?_)
  subst ex
  cases rx
  rw [← c.eP, ← c.ew] at h1 q
  obtain ⟨hs, hgd, hx, es', ep', hdt, hsz, ent⟩ := frz_of I1 h1
  have hraw : s1.heap.DictRaw o es' ep' := ⟨od, hgd, hx, hdt⟩
  refine ⟨hraw.typeIs, fun b q' => by cases q'; exact ⟨od, hgd, hx.2.1⟩, ?_⟩
  have I2 : L2.Inv X pins σ H1 { s1 with heap := s1.heap.push { cls := .type "dict_items", data := .fields #[.ref o] } } := I1.kept (t' := s1.toks) fun b ob q => Heap.get?_push_of_some _ q
  have fin : wpAny (model X.prog X.w) X.A (pyIter (.ref s1.heap.objs.size)) (PIE X pins σ (.Tuple ts kk tpos) R) X.xe { s1 with heap := s1.heap.push { cls := .type "dict_items", data := .fields #[.ref o] } } := by
    refine wpAny_pyIter_items_raw (d := o) ⟨_, Heap.get?_push_size _ rfl, rfl, rfl⟩ (hraw.at fun o e => Heap.get?_push_of_some _ e) (pi_one (tk := s1.toks) I2 _ (turn_itI _ hdt) ⟨.none, .none, ?_⟩ q)
    rw [← hsz]
    exact Heap.get?_push_size _ rfl
  show wpAny _ _ (callWith cpos (.builtin "dict.items") [.ref o] [] []) _ X.xe s1
  exact method_meetsIn F.slot_dict_items F.entry_dict_items rfl (PySem.evalArgs_none ⟨rfl, hraw.typeIs, F.args_dict_items_1 _, _, meets_dict_items_raw o hs, ⟨es', ep', hraw⟩, fin⟩)
theorem kd_get {H : Hp} : ∀ {kas : KA} {kvs : List (NestedKey × PyData)} {i : Nat} {q : NestedKey × PyData}, RpKd T H kas kvs → kvs[i]? = some q → ∃ b v, kas[i]? = some (q.1, b, v) ∧ Rp T H (.ref b) q.1.data ∧ Rp T H v q.2
  | _, _, _, _, .nil, h => by simp at h
  | _, _, 0, _, .cons a1 a2 a3 a4, h => by
    simp at h
    subst h
    exact ⟨_, _, rfl, a1, a3⟩
  | _, _, i + 1, _, .cons a1 a2 a3 a4, h => by
    obtain ⟨b, v, h1, h2⟩ := kd_get (i := i) a4 (by simpa using h)
    exact ⟨b, v, by simpa using h1, h2⟩
theorem di_keN (he : DE C e r (dictD kvs)) : DI C tg e r (kvs.map fun q => q.1.data) := by
  obtain ⟨t, pt, et⟩ := he
  refine ⟨_, fun X hX => pi_keN hX (pt X hX), fun σ G H R e s q => et σ G H _ e s fun v G1 H1 x1 r1 => ?_⟩
  obtain ⟨o, od, kas, rfl, h1, h2⟩ := r1.dicD_inv
  refine ⟨o, od, kas, rfl, x1.gh _ _ h1, q _ G1 H1 x1 ⟨fun i d G H hd e1 e2 => ?_, fun G H e1 e2 => ⟨e2 _ _ (e1 _ _ h1), by rw [h2.length, List.length_map]; exact Nat.le_refl _⟩⟩⟩
  rw [List.getElem?_map] at hd
  obtain ⟨q, hq, rfl⟩ := Option.map_eq_some_iff.mp hd
  obtain ⟨b, v, f1, f2, f3⟩ := kd_get h2 hq
  refine ⟨⟨e2 _ _ (e1 _ _ h1), (List.getElem?_eq_some_iff.mp f1).1⟩, fun x H' y => ?_⟩
  obtain ⟨rfl, k, b', v', g1, rfl⟩ := y
  rw [f1] at g1
  cases g1
  exact ⟨G, .refl e2, f2.mono e1⟩
theorem di_vaN (he : DE C e r (dictD kvs)) (hbase : ∀ env : Env, attributeBase e ("values" : Str) env (eval e env) = eval e env := by intro _; rfl) (hline : (apos.endLine == cpos.line) = true := by rfl) : DI C tg (.Call (.Attribute e ("values" : Str) apos) [] [] cpos) r (kvs.map fun q => q.2) := by
  obtain ⟨t, pt, et⟩ := he
  refine ⟨_, fun X hX => pi_vaN hX (pt X hX) (hbase X.env) hline, fun σ G H R e s q => et σ G H _ e s fun v G1 H1 x1 r1 => ?_⟩
  obtain ⟨o, od, kas, rfl, h1, h2⟩ := r1.dicD_inv
  refine ⟨o, od, kas, rfl, x1.gh _ _ h1, q _ G1 H1 x1 ⟨fun i d G H hd e1 e2 => ?_, fun G H e1 e2 => ⟨e2 _ _ (e1 _ _ h1), by rw [h2.length, List.length_map]; exact Nat.le_refl _⟩⟩⟩
  rw [List.getElem?_map] at hd
  obtain ⟨q, hq, rfl⟩ := Option.map_eq_some_iff.mp hd
  obtain ⟨b, v, f1, f2, f3⟩ := kd_get h2 hq
  refine ⟨⟨e2 _ _ (e1 _ _ h1), (List.getElem?_eq_some_iff.mp f1).1⟩, fun x H' y => ?_⟩
  obtain ⟨rfl, k, b', g1⟩ := y
  rw [f1] at g1
  cases g1
  exact ⟨G, .refl e2, f3.mono e1⟩
theorem di_itN (he : DE C e r (dictD kvs)) (hbase : ∀ env : Env, attributeBase e ("items" : Str) env (eval e env) = eval e env := by intro _; rfl) (hline : (apos.endLine == cpos.line) = true := by rfl) : DI C (.Tuple ts kk tpos) (.Call (.Attribute e ("items" : Str) apos) [] [] cpos) r (kvs.map fun q => .tuple [q.1.data, q.2]) := by
  obtain ⟨t, pt, et⟩ := he
  refine ⟨_, fun X hX => pi_itN hX (pt X hX) (hbase X.env) hline, fun σ G H R e s q => et σ G H _ e s fun v G1 H1 x1 r1 => ?_⟩
  obtain ⟨o, od, kas, rfl, h1, h2⟩ := r1.dicD_inv
  refine ⟨o, od, kas, rfl, x1.gh _ _ h1, q _ G1 H1 x1 ⟨fun i d G H hd e1 e2 => ?_, fun G H e1 e2 => ⟨e2 _ _ (e1 _ _ h1), by rw [h2.length, List.length_map]; exact Nat.le_refl _⟩⟩⟩
  rw [List.getElem?_map] at hd
  obtain ⟨q, hq, rfl⟩ := Option.map_eq_some_iff.mp hd
  obtain ⟨b, v, f1, f2, f3⟩ := kd_get h2 hq
  refine ⟨⟨e2 _ _ (e1 _ _ h1), (List.getElem?_eq_some_iff.mp f1).1⟩, fun x H' y => ?_⟩
  obtain ⟨t, k, b', v', g1, rfl, hn, rfl⟩ := y
  rw [f1] at g1
  cases g1
  have sn := same_new (o := .tup [.ref b, v]) (e2.free hn)
  exact ⟨_, .new e2 hn, .tup (SqT.of upd_same) (.cons ((f2.mono e1).mono sn) (.cons ((f3.mono e1).mono sn) .nil))⟩
end
end DL

/-! DL, part M: dict displays of one pair, dict comprehensions, with nested keys. -/
namespace DL
open PySem PySem.Spec L2
open PyProof.Rows hiding St
section
variable {T : Tx} {C : CS T} {r r1 : Sls} {R : PyData → Prop} {a b c e tg : Expr} {pos p p2 pos' tpos : Pos} {d d' f : PyData} {kvs : List (NestedKey × PyData)} {k : NestedKey} {ks : List NestedKey}
theorem room_n0 {X : Cx} {k : Nat} {A : Around} (r : Room k A) : (nestedKind X.prog X.w).room A := by
  show A.units + 8 < cLine
  have := r.un
  omega
/-- {k: v} -/
theorem dm_one (ha : DE C a r (NestedKey.tup ks).data) (hb : DE C b r d) (h8 : (NestedKey.tup ks).depth ≤ 8) : DM C (.Dict [some a] [b] pos) r [(.tup ks, d)] := by
  obtain ⟨ta, pa, ea⟩ := ha
  obtain ⟨tb, pb, eb⟩ := hb
  refine ⟨fun σ H Q => ∀ n, H n = none → ta σ (upd H n (dictO T.P T.w n [])) fun x H1 => tb σ H1 fun y H2 => ∃ o k, x = .ref o ∧ H2 n = some (dictO T.P T.w n []) ∧ Rp T H2 (.ref o) (NestedKey.data k) ∧ k.depth ≤ 8 ∧ Q (.ref n) (upd H2 n (dictO T.P T.w n [(k, o, y)])), fun X hX => ?_, fun σ G H Q e s q n hn => ?_⟩
  · have c := C.ok X hX
    refine ⟨fun pins s σ H Q I h => ?_⟩
    have hn : H s.heap.objs.size = none := I.hok.fresh (Nat.le_refl _)
    have hsys : (s.heap.objs.size == sysModules) = false := beq_eq_false_iff_ne.mpr (Ne.symm (Nat.ne_of_lt I.big))
    have new : ObjOk X.prog X.w (upd H s.heap.objs.size (dictO T.P T.w s.heap.objs.size [])) (s.heap.push { cls := .type "dict", data := .dict #[] }) s.heap.objs.size (dictO T.P T.w s.heap.objs.size []) := by
      rw [c.eP, c.ew]
      exact dictO_ok ⟨hsys, Nat.zero_le _, [], .nil, _, #[], 0, Heap.get?_push_size _ rfl, ⟨rfl, rfl, rfl⟩, rfl, rfl, List.nodup_nil⟩
    have I1 := I.laid (a := s.heap.objs.size) (t' := s.toks) (fun _ _ q => Heap.get?_push_of_some _ q) (Nat.le_refl _) new
    have hp : pairTrees [some a] [b] X.env pos = [(eval a X.env, (do let x ← eval b X.env; standAt pos; pure x : Sem Value))] := rfl
    rw [arm_eval_Dict, show (evalEachOpt [some a] X.env).zip ((evalEach [b] X.env).map fun (v : Sem Value) => (do let x ← v; standAt pos; pure x : Sem Value)) = [(eval a X.env, (do let x ← eval b X.env; standAt pos; pure x : Sem Value))].map fun p => (some p.1, p.2) from rfl, dictDisplay_pairs _ (by simp) (by simp)]
    refine wpAny_bind (wpAny_standAt (wpAny_bind (wpAny_subDictH (knd := nestedKind X.prog X.w) (Q := fun d s' => wpAny (model X.prog X.w) X.A (pure (Value.ref d)) (EP X pins σ Q) X.xe s') (room_n0 c.room) (by simp) ?_)))
    rw [← hp]
    refine pairTrees_cons_walk (thn ((pa X hX).run pins _ σ _ _ I1 (h _ hn)) fun u s1 ⟨x, H1, I2, rx, q1⟩ => thn ((pb X hX).run pins s1 σ H1 _ I2 q1) fun u2 s2 ⟨y, H2, I3, ry, q2⟩ => ?_)
    obtain ⟨o, k, rfl, h1, h2, h3, q⟩ := q2
    cases rx
    refine pairTrees_nil_walk ⟨[(k, o, u2)], ⟨rfl, rfl, nkey_of I3 c.eK h2 h3, trivial⟩, ?_, fun h' tk hm hs => wpAny_pure ?_⟩
    · rw [← c.eP, ← c.ew] at h1
      obtain ⟨z1, z2, xs, z3, z4⟩ := dict_of (T := T) I3 c.eK (.inl h1) .nil
      cases z3
      exact z4
    · obtain ⟨ob, es, ep, g1, g2, g3, g4, _, g5⟩ := hm
      refine ⟨.ref s.heap.objs.size, _, d_write (t' := tk) (ob := dictO T.P T.w s.heap.objs.size [(k, o, y)]) I3 (by rw [h1]; trivial) hs ⟨ob, g1⟩ ?_, rfl, q⟩
      rw [c.eP, c.ew]
      refine dictO_ok ⟨hsys, by show 1 ≤ sizeLine; decide, [(k, o, u2)], .cons ⟨rfl, rfl, ry⟩ .nil, ob, es, ep, g1, g2, g3, ?_, by simp⟩
      rw [← c.eP, ← c.ew]
      exact g4
  · have e0 := Ext.hid (o := dictO T.P T.w n []) e hn
    refine ea σ G _ _ e0.gh (s.mono e0) fun v G1 H1 x1 r1 => ?_
    refine eb σ G1 H1 _ x1.gh ((s.mono e0).mono x1) fun u G2 H2 x2 r2 => ?_
    obtain ⟨o, xs, rfl, h3, h4⟩ := Rp.tup_inv (by simpa only [NestedKey.data] using r1)
    have x12 := x1.trans x2
    have hD := x12.h _ _ (upd_same (H := H) (a := n) (o := dictO T.P T.w n []))
    have gD := x12.sep n _ upd_same (e.free hn)
    have x := e0.trans x12
    refine ⟨o, .tup ks, rfl, hD, (r1.mono x2.g).mono x2.gh, h8, q n _ G2 _ hn ⟨x.g, fun b z q => ?_, fun b z q => ?_, x.sep⟩ gD upd_same (.cons (r1.mono x2.g) h8 r2 .nil)⟩
    · rw [upd_ne (ne_of_none q hn)]; exact x.h b z q
    · rw [upd_ne (ne_of_none q gD)]; exact x.gh b z q
end

/-! ### dict comprehensions -/
section
variable {T : Tx}
theorem dictSetN {X : Cx} {pins : List (Addr × Obj)} {σ : St} {H : Hp} {s : Shared} {E : Value → Shared → Prop} {D : Addr} {kas : KA} {kvs : List (NestedKey × PyData)} {k : NestedKey} {b : Addr} {v : V} {u : Value} {Q : Unit → Shared → Prop} {n : Nat} (I : L2.Inv X pins σ H s) (eP : X.prog = T.P) (ew : X.w = T.w) (eK : X.K = T.K) (hr : Room n X.A)
    (hD : H D = some (dictO T.P T.w D kas)) (hk : RpKd T H kas kvs) (hz : kas.length < sizeLine) (rb : Rp T H (.ref b) k.data) (h8 : k.depth ≤ 8) (rv : RelV v u) (h : ∀ s', L2.Inv X pins σ (upd H D (dictO T.P T.w D (putKa kas k b v))) s' → Q () s') :
    wpAny (model X.prog X.w) X.A (dictSet D (.ref b) u) Q E s := by
  have hD' : H D = some (dictO X.prog X.w D kas) := by rw [eP, ew]; exact hD
  obtain ⟨z1, z2, xs, z3, z4⟩ := dict_of I eK (.inl hD') hk
  have hlx : kas.length = xs.length := Paired.length z3
  refine wpAny_dictSet_heap (hsz := by rw [← hlx]; exact z2) (room_n0 hr) (nkey_of I eK rb h8) z4 fun h' dd hs' => h _ ?_
  obtain ⟨ob, es, ep, g1, g2, g3, g4, _, g5⟩ := dd
  refine d_write (ob := dictO T.P T.w D (putKa kas k b v)) I (by rw [hD]; trivial) hs' ⟨ob, g1⟩ ?_
  rw [eP, ew]
  refine dictO_ok ⟨z1, ?_, _, ka_put z3 b rv, ob, es, ep, g1, g2, g3, ?_, g5⟩
  · have := ka_len (k := k) kas b v; omega
  · rw [← eP, ← ew]; exact g4
/-- {k: v for target in iter}, the new dict at D -/
def tDcN (T : Tx) (wi : TI) (g : TG) (tk tv : TE) (vs : List Nat) : TE := fun σ H Q => wi σ H fun J H1 => ∀ D, H1 D = none → ∃ W : Nat → Nat → Hp → Prop, (∃ m, W 0 m (upd H1 D (dictO T.P T.w D []))) ∧ ∀ i m H, W i m H →
  (J.stop i H ∧ Q (.ref D) H) ∨ (J.go i H ∧ ∃ Nx : Hp → Prop, (∀ H', Nx H' → ∃ m', m' < m ∧ W (i + 1) m' H') ∧ ∀ x H', J.yld i H x H' → g x (L2.wipe σ vs) H' fun σ2 H2 => L2.wipe σ2 vs = L2.wipe σ vs ∧
    tk σ2 H2 fun y H3 => tv σ2 H3 fun z H4 => ∃ b k kas kvs, y = .ref b ∧ H4 D = some (dictO T.P T.w D kas) ∧ RpKd T H4 kas kvs ∧ Rp T H4 (.ref b) (NestedKey.data k) ∧ k.depth ≤ 8 ∧ kas.length < sizeLine ∧ Nx (upd H4 D (dictO T.P T.w D (putKa kas k b z))))
theorem dcN_core {X : Cx} {pins : List (Addr × Obj)} {s : Shared} {σ : St} {H : Hp} {Q : VK} {kx vx tg iter : Expr} {scope : Scope} {own : List (Str × Nat)} {pos pos' : Pos} {wi : TI} {g : TG} {tk tv : TE} {use : Option (Value → Sem Unit)} {Qf : Value → Shared → Prop} {n : Nat}
    (eP : X.prog = T.P) (ew : X.w = T.w) (eK : X.K = T.K) (hr : Room n X.A) (hc : X.calm = true) (hN : X.N.Nodup) (I : L2.Inv X pins σ H s) (hi : PI X tg iter wi) (ok : BlkOk X.N X.env.scope scope own)
    (hg : ∀ (s : Shared) (H : Hp) (A : Addr) (cl : List (Str × Addr)) (fp : List Addr), PG (X.blk s H scope (compEnvC scope cl A X.env) fp) tg g)
    (hk : ∀ (s : Shared) (H : Hp) (A : Addr) (cl : List (Str × Addr)) (fp : List Addr), PE (X.blk s H scope (compEnvC scope cl A X.env) fp) kx tk)
    (he : ∀ (s : Shared) (H : Hp) (A : Addr) (cl : List (Str × Addr)) (fp : List Addr), PE (X.blk s H scope (compEnvC scope cl A X.env) fp) vx tv) (hs : ∀ x, foldedSetIterable iter X.env x = pure x)
    (h : tDcN T wi g tk tv (own.map (·.2)) σ H Q)
    (hRR : ∀ D A s' m H', L2.Inv X pins σ H' s' → Q (.ref D) H' → s'.heap.Ns A m → FpOk X pins H' A → compPost (model X.prog X.w) X.A X.xe use Qf (.ref D) A (.ok .next) s') :
    wpAny (model X.prog X.w) X.A (comprehension (.DictComp kx vx [⟨tg, iter, [], 0⟩] scope pos) scope X.env pos' newDict false (eval iter X.env) use) Qf X.xe s := by
  have cap : ∀ y ∈ scope.names, y.2 = .free → ∃ c, X.env.cells.lookup y.1 = some c := fun y hy e => (ok.free y hy e).elim (fun k => I.ok.has _ (.inl k)) (fun k => I.ok.has _ (.inr k))
  refine wpAny_comprehension_free (use := use) rfl hs (closure_ok cap) ok.kind (fun y hy e => by rw [ok.uniq y hy, e]) (thn (hi.run pins s σ H _ I h) fun xv s1 hx => thn hx fun itv s2 h2 => ?_)
  obtain ⟨it, fp, tn, J, H2, rfl, I2, TT, st2, f2, q⟩ := h2
  refine wpAny_newObj_type (newEnv_comp ?_)
  generalize hD : s2.heap.objs.size = D
  have hDn : H2 D = none := I2.hok.fresh (Nat.le_of_eq hD)
  have hsys : (D == sysModules) = false := by rw [← hD]; exact beq_eq_false_iff_ne.mpr (Ne.symm (Nat.ne_of_lt I2.big))
  obtain ⟨W, ⟨m0, w0⟩, turn⟩ := q D hDn
  generalize hs3 : ({ s2 with heap := s2.heap.push { cls := .type "dict", data := .dict #[] } } : Shared) = s3
  have h3 : s3.heap = s2.heap.push { cls := .type "dict", data := .dict #[] } := by rw [← hs3]
  have I3 : L2.Inv X pins σ (upd H2 D (dictO T.P T.w D [])) s3 := by
    rw [← hs3]
    refine I2.laid (t' := s2.toks) (fun b o e => Heap.get?_push_of_some _ e) (Nat.le_of_eq hD) ?_
    rw [eP, ew]
    exact dictO_ok ⟨hsys, Nat.zero_le _, [], .nil, _, #[], 0, by rw [← hD]; exact Heap.get?_push_size _ rfl, ⟨rfl, rfl, rfl⟩, rfl, rfl, List.nodup_nil⟩
  have sz : ∀ b ∈ fp, b < s2.heap.objs.size := fun b hb => let ⟨o, e, _⟩ := TT.obj _ _ st2 b hb; Heap.lt_size e
  have f3 : ∀ b ∈ fp, FpOk X pins (upd H2 D (dictO T.P T.w D [])) b ∧ b < s3.heap.objs.size := fun b hb => by
    refine ⟨⟨?_, (f2 b hb).2⟩, by rw [h3, Heap.size_push]; exact Nat.lt_succ_of_lt (sz b hb)⟩
    rw [upd_ne (by rw [← hD]; exact Nat.ne_of_lt (sz b hb))]
    exact (f2 b hb).1
  have st3 : tn 0 s3.heap := TT.keep _ _ _ st2 fun b _ o e => by rw [h3]; exact Heap.get?_push_of_some _ e
  have I4 := block_start I3 ok hN f3
  generalize hH3 : upd H2 D (dictO T.P T.w D []) = H3 at I3 I4 w0 f3
  generalize hcl : cellsFrom (s3.heap.objs.size + 1) scope.names (cloFrom X.env.cells scope.names []) = cl at I4
  have pg := hg s3 H3 s3.heap.objs.size cl fp
  have pk := hk s3 H3 s3.heap.objs.size cl fp
  have pe := he s3 H3 s3.heap.objs.size cl fp
  show codeAny _ _ (.compStart (.DictComp kx vx [⟨tg, iter, [], 0⟩] scope pos) 0 (.ref it) (.ref D) (compEnvC scope cl s3.heap.objs.size X.env)) (compPost (model X.prog X.w) X.A X.xe use Qf (.ref D) s3.heap.objs.size) { s3 with heap := pushCells (s3.heap.push { cls := .type "dict", data := .dict #[] }) scope.names }
  generalize hce : compEnvC scope cl s3.heap.objs.size X.env = ce at I4 pg pk pe ⊢
  have cL : ce.locals = s3.heap.objs.size := by subst hce; rfl
  have nfp : ∀ b ∈ fp, H3 b = none := fun b hb => (f3 b hb).1.1
  generalize hs4 : ({ s3 with heap := pushCells (s3.heap.push { cls := .type "dict", data := .dict #[] }) scope.names } : Shared) = s4 at I4 ⊢
  have st4 : tn 0 s4.heap := TT.keep _ _ _ st3 fun b _ o e => by rw [← hs4]; exact pushCells_keeps _ _ _ _ (Heap.get?_push_of_some _ e)
  have stat : ∀ {σ' : St} {H' : Hp} {s' : Shared}, L2.Inv (X.blk s3 H3 scope ce fp) [] σ' H' s' → (∀ b ∈ fp, H' b = none) → ∀ b ∈ fp, FpOk (X.blk s3 H3 scope ce fp) [] H' b := fun {σ' H' s'} I' hn b hb =>
    ⟨hn b hb, (I'.ok.exf b hb).1, I'.ok.exfs b hb, .inl hb, fun x c e => (I'.ok.exf b hb).2 x c e, fun p hp => absurd (show p ∈ ([] : List (Addr × Obj)) ++ [] from hp) (by simp)⟩
  have loop : codeAny (model X.prog X.w) X.A (.compLoop (.DictComp kx vx [⟨tg, iter, [], 0⟩] scope pos) 0 (.ref it) (.ref D) ce) (compPost (model X.prog X.w) X.A X.xe use Qf (.ref D) s3.heap.objs.size) s4 := by
    refine compLoop_anyD (fun n s' => ∃ i H', L2.Inv (X.blk s3 H3 scope ce fp) [] (L2.wipe σ (own.map (·.2))) H' s' ∧ tn i s'.heap ∧ (∀ b ∈ fp, H' b = none) ∧ W i n H') ?_ m0 ⟨0, H3, I4, st4, nfp, w0⟩
    rintro n s5 ⟨i, H5, I5, st5, n5, w5⟩
    rcases turn i n H5 w5 with ⟨stop, qq⟩ | ⟨go, Nx, hNx, step⟩
    · refine thnF (TT.done (X.blk s3 H3 scope ce fp) rfl rfl rfl hc i [] s5 _ H5 (fun _ _ => False) I5 (stat I5 n5) st5 stop) fun r s6 ⟨hr, I6⟩ => ?_
      subst hr
      have I7 : L2.Inv X pins σ H5 s6 := I3.call' (ch := fp) I6.os I6.base I6.hok I6.bare fun b hb => ⟨(f3 b hb).1.2.2.2.1, (f3 b hb).1.2.1, (f3 b hb).1.2.2.2.2.1, (f3 b hb).1.2.2.2.2.2⟩
      have nC : H5 s3.heap.objs.size = none := by
        have z : H5 ce.locals = none := I6.free
        rw [cL] at z
        exact z
      obtain ⟨m, hn, _⟩ := I6.loc
      have hn : s6.heap.Ns ce.locals m := hn
      rw [cL] at hn
      exact hRR D s3.heap.objs.size s6 m H5 I7 qq hn (I3.fpOk (Nat.le_refl _) nC)
    · refine thnF (TT.item (X.blk s3 H3 scope ce fp) rfl rfl rfl hc i [] s5 _ H5 (fun _ _ => False) I5 (stat I5 n5) st5 go) fun r s6 ⟨u, hr, h6⟩ => ?_
      subst hr
      refine thnF h6 fun _ s7 ⟨x, H7, I7, r7, y7, st7, n7⟩ => ?_
      have I7' := I7.pinned (stat I7 n7) (TT.obj _ _ st7)
      refine thnF (pg.run _ s7 _ H7 x u _ I7' r7 (step x H7 y7)) fun _ s8 ⟨σ8, H8, I8, hw8, q8⟩ => ?_
      have fin : ∀ {s' : Shared} {H' : Hp}, L2.Inv (X.blk s3 H3 scope ce fp) ([] ++ pinsAt fp s7.heap) σ8 H' s' → Nx H' → ∃ m, m < n ∧ ∃ i H', L2.Inv (X.blk s3 H3 scope ce fp) [] (L2.wipe σ (own.map (·.2))) H' s' ∧ tn i s'.heap ∧ (∀ b ∈ fp, H' b = none) ∧ W i m H' := fun {s' H'} I' nx => by
        obtain ⟨m', hm, w'⟩ := hNx H' nx
        have pin' : ∀ b ∈ fp, ∀ o, s7.heap.get? b = some o → s'.heap.get? b = some o ∧ H' b = none := fun b hb o e =>
          let z := I'.pin (b, o) (List.mem_append_right _ (List.mem_append_right _ (mem_pinsAt hb e)))
          ⟨z.1, z.2.1⟩
        have hl : (L2.wipe σ (own.map (·.2))).length = σ8.length := by rw [← hw8, wipe_length]
        refine ⟨m', hm, i + 1, H', (I'.unpinned (pins := [])).weak hl (fun j v e => ?_), TT.keep _ _ _ st7 fun b hb o e => (pin' b hb o e).1, fun b hb => ?_, w'⟩
        · rw [← hw8] at e
          exact (wipe_some e).1
        · obtain ⟨o, e, _⟩ := TT.obj _ _ st7 b hb
          exact (pin' b hb o e).2
      refine wpAny_tests_nil ?_
      simp only [if_true]
      refine thnF (pk.run _ s8 σ8 H8 _ I8 q8) fun z s10 ⟨yk, H10, I10, r10, q10⟩ => ?_
      refine thnF (pe.run _ s10 σ8 H10 _ I10 q10) fun z2 s11 ⟨yv, H11, I11, r11, b, k, kas, kvs, ek, g1, g2, g3, g4, g5, nx⟩ => ?_
      subst ek
      cases r10
      exact dictSetN (X := X.blk s3 H3 scope ce fp) I11 eP ew eK hr g1 g2 g5 g3 g4 r11 fun s12 I12 => fin I12 nx
  exact codeAny_compStart_dict loop (TT.self X.A 0 _ _ _ st4 loop)
theorem sw_trueD {kx vx : Expr} {gs : List Comprehension} {scope : Scope} {pos py : Pos} {y : Str} {l : Nat} {env : Env} (hk : env.scope.kind = .function) (hy : env.scope.names.lookup y = some .local) (hl : (py.line == pos.line) = true)
    (ha : (scope.names.any fun (n, k) => n == y && (k == .local || k == .cell)) = false) : swapsWith (.DictComp kx vx gs scope pos) (some (.Name y py)) l env = pure true := by
  have ky : env.kindOf y = some .local := hy
  have hb : env.blockKind = .function := by unfold Env.blockKind; rw [hk]; rfl
  unfold swapsWith
  simp only [hb, ky, ha, Expr.pos, hl]
  rfl
theorem ps_setDcN {X : Cx} {i : Nat} {y : Str} {py : Pos} {kx vx tg iter : Expr} {scope : Scope} {own : List (Str × Nat)} {pos spos : Pos} {wi : TI} {g : TG} {tk tv : TE} {n : Nat} (eP : X.prog = T.P) (ew : X.w = T.w) (eK : X.K = T.K) (hr : Room n X.A) (hc : X.calm = true) (hN : X.N.Nodup) (hy : X.N[i]? = some y) (hyl : X.env.scope.names.lookup y = some .local)
    (hsw : swapsWith (.DictComp kx vx [⟨tg, iter, [], 0⟩] scope pos) (some (.Name y py)) spos.line X.env = pure true) (hi : PI X tg iter wi) (ok : BlkOk X.N X.env.scope scope own)
    (hg : ∀ (s : Shared) (H : Hp) (A : Addr) (cl : List (Str × Addr)) (fp : List Addr), PG (X.blk s H scope (compEnvC scope cl A X.env) fp) tg g)
    (hk : ∀ (s : Shared) (H : Hp) (A : Addr) (cl : List (Str × Addr)) (fp : List Addr), PE (X.blk s H scope (compEnvC scope cl A X.env) fp) kx tk)
    (he : ∀ (s : Shared) (H : Hp) (A : Addr) (cl : List (Str × Addr)) (fp : List Addr), PE (X.blk s H scope (compEnvC scope cl A X.env) fp) vx tv) (hs : ∀ x, foldedSetIterable iter X.env x = pure x) :
    PS X (.Assign [.Name y py] (.DictComp kx vx [⟨tg, iter, [], 0⟩] scope pos) spos) (tAsg (tDcN T wi g tk tv (own.map (·.2))) (gName i)) := by
  refine ⟨fun pins s σ H D I h => ?_⟩
  rw [exec_Assign_Name_used _ _ _ _ hsw]
  refine wpAny_bind (wpAny_standAt (wpAny_bind ?_))
  show wpAny _ X.A (do let _ ← comprehension (.DictComp kx vx [⟨tg, iter, [], 0⟩] scope pos) scope X.env (firstIterPos [⟨tg, iter, [], 0⟩] pos) newDict false (eval iter X.env) (some (assign (.Name y py) X.env))) _ _ s
  have h : tDcN T wi g tk tv (own.map (·.2)) σ H (fun x H1 => gName i x σ H1 D.nx) := h
  refine wpAny_bind (thn (dcN_core (Qf := fun _ s' => SP X pins D .next s') eP ew eK hr hc hN I hi ok hg hk he hs h fun L A s' m H' I' q hn f => ?_) fun _ s' hq => wpAny_pure (wpAny_pure hq))
  show wpAny _ _ (assign (.Name y py) X.env (.ref L)) _ _ _
  refine wpAny_assign_Name (store_ok2 (v := V.ref L) I' hN hy (.inl hyl) rfl (fun s2 I2 ⟨a, sb, ha⟩ => ?_) (.inr hyl))
  obtain ⟨f0, f1, f2, f3, f4, f5⟩ := f
  have haC : A ≠ a := by
    rcases ha with z | z
    · rw [z]; exact f1
    · exact fun e => f4 y a z e.symm
  refine ⟨m, hn.sameBut sb haC, fun h3 sb3 => ?_⟩
  exact ⟨_, H', I2.turned (t' := s2.toks) (fun b o hb e => (sb3.2 b hb).trans e) f0 f1 f3 f4 f5, q⟩
variable {C : CS T} {r : Sls} {R : PyData → Prop} {tg : Expr} {pos : Pos}
/-- one turn of a dict comprehension's block -/
def DcTurn (C : CS T) (tg kx vx : Expr) (r : Sls) (vs : List Nat) (d : PyData) (o : NestedKey × PyData) : Prop :=
  ∃ r2 ix ks, DG C tg (wipeS r vs) d r2 ix ∧ (∀ i ∈ ix, i ∈ vs) ∧ o.1 = .tup ks ∧ DE C kx r2 (NestedKey.tup ks).data ∧ (NestedKey.tup ks).depth ≤ 8 ∧ DE C vx r2 o.2
def foldN (kvs : List (NestedKey × PyData)) (os : List (NestedKey × PyData)) : List (NestedKey × PyData) := os.foldl (fun a p => putN a p.1 p.2) kvs
theorem kd_wit {G : Hp} {kas : KA} {kvs : List (NestedKey × PyData)} (h : RpKd T G kas kvs) : kas.length = kvs.length := h.length
theorem putN_len (m : List (NestedKey × PyData)) (k : NestedKey) (v : PyData) : (putN m k v).length ≤ m.length + 1 := by
  unfold putN
  split <;> simp
theorem dc_read {its : List PyData} {os : List (NestedKey × PyData)} {vs : List Nat} {wi : TI} {g : TG} {tk tv : TE} {kx vx : Expr} {CB : CS T}
    (hi : ∀ (σ : St) (G H : Hp) (R : It → Hp → Prop), Same G H → Sl T r σ G H → (∀ J G' H', Ext G H G' H' → WalkD T J its G' H' → R J H') → wi σ H R)
    (hl : its.length ≤ 1000000)
    (hg : g = fun v σ H Q => ∃ g', (∀ X, CB.S X → PG X tg g') ∧ g' v σ H Q) (ht : tk = fun σ H Q => ∃ t', (∀ X, CB.S X → PE X kx t') ∧ t' σ H Q) (he : tv = fun σ H Q => ∃ t', (∀ X, CB.S X → PE X vx t') ∧ t' σ H Q)
    (hlen : os.length = its.length) (hb : ∀ (i : Nat) (hi : i < its.length), DcTurn CB tg kx vx r vs its[i] (os[i]'(by omega))) : EvM T r (tDcN T wi g tk tv vs) (foldN [] os) := by
  intro σ G H Q e s q
  refine hi σ G H _ e s fun J G1 H1 x1 W D hD => ?_
  have W0 : Ext G H G1 (upd H1 D (dictO T.P T.w D [])) := x1.trans (.hid x1.gh hD)
  refine ⟨fun i m H' => m = its.length - i ∧ i ≤ its.length ∧ ∃ G' kas, Ext G H G' H' ∧ Same G1 G' ∧ G' D = none ∧ H' D = some (dictO T.P T.w D kas) ∧ RpKd T G' kas (foldN [] (os.take i)) ∧ kas.length ≤ i,
    ⟨its.length, by omega, Nat.zero_le _, G1, [], W0, Same.refl _, x1.gh.free hD, upd_same, .nil, Nat.le_refl _⟩, ?_⟩
  rintro i m H' ⟨rfl, hle, G', kas, x2, sG, hG, hH, ra, hal⟩
  by_cases hlt : i < its.length
  · have e1 := List.getElem?_eq_getElem hlt
    obtain ⟨hgo, hy⟩ := W.go i its[i] G' H' e1 sG x2.gh
    refine .inr ⟨hgo, fun H2 => ∃ G2 kas, Ext G H G2 H2 ∧ Same G1 G2 ∧ G2 D = none ∧ H2 D = some (dictO T.P T.w D kas) ∧ RpKd T G2 kas (foldN [] (os.take (i + 1))) ∧ kas.length ≤ i + 1, fun H2 h2 => ⟨its.length - (i + 1), by omega, rfl, hlt, h2⟩, fun x H2 y => ?_⟩
    obtain ⟨G3, x3, r3⟩ := hy x H2 y
    have x23 := x2.trans x3
    have hH3 := x3.h _ _ hH
    have hG3 := x3.sep _ _ hH hG
    subst hg ht he
    obtain ⟨r2, ix, ks, ⟨g', pg, eg⟩, hix, ek, ⟨t', pt, et⟩, h8, u', pu, eu⟩ := hb i hlt
    refine ⟨g', pg, eg _ G3 H2 x _ x3.gh ((s.mono x23).wipe vs) r3 fun σ2 s2 t2 => ⟨t2.wipe hix, t', pt, et σ2 G3 H2 _ x3.gh s2 fun w G4 H4 x4 r4 => ⟨u', pu, eu σ2 G4 H4 _ x4.gh (s2.mono x4) fun v G5 H5 x5 r5 => ?_⟩⟩⟩
    obtain ⟨b, xs, rfl, h3, h4⟩ := Rp.tup_inv (by simpa only [NestedKey.data] using r4)
    have x45 := x4.trans x5
    have hH5 := x45.h _ _ hH3
    have hG5 := x45.sep _ _ hH3 hG3
    have x25 := x23.trans x45
    have hn0 : H D = none := x1.h.free hD
    have ra5 : RpKd T G5 kas (foldN [] (os.take i)) := (ra.mono x3.g).mono x45.g
    have et' : foldN [] (os.take (i + 1)) = putN (foldN [] (os.take i)) (.tup ks) (os[i]'(by omega)).2 := by
      have hz : os.take (i + 1) = os.take i ++ [os[i]'(by omega)] := List.take_succ_eq_append_getElem (by omega : i < os.length)
      rw [← ek, hz]
      unfold foldN
      rw [List.foldl_append]
      rfl
    refine ⟨b, .tup ks, kas, foldN [] (os.take i), rfl, hH5, ra5.mono x25.gh, (r4.mono x5.g).mono x25.gh, h8, smallLt (by omega), G5, putKa kas (.tup ks) b v, ⟨x25.g, fun b u e => ?_, fun b u e => ?_, x25.sep⟩, (sG.trans x3.g).trans x45.g, hG5, upd_same, ?_, Nat.le_trans (ka_len _ _ _) (by omega)⟩
    · rw [upd_ne (ne_of_none e hn0)]; exact x25.h b u e
    · rw [upd_ne (ne_of_none e hG5)]; exact x25.gh b u e
    · rw [et']
      exact kd_put (r4.mono x5.g) h8 r5 ra5
  · have ei : i = its.length := by omega
    subst ei
    rw [List.take_of_length_le (by omega)] at ra
    exact .inl ⟨W.stop G' H' sG x2.gh, q D kas G' H' (x1.h.free hD) x2 hG hH ra⟩
/-- y = {k: v for tg in iter} on one line, y a local: owned -/
theorem ds_newDc {its : List PyData} {os : List (NestedKey × PyData)} {kx vx iter : Expr} {scope : Scope} {y : Str} {py spos : Pos} (i : Nat) (own : List (Str × Nat)) (hi : DI C tg iter r its) (hl : its.length ≤ 1000000)
    (hlen : os.length = its.length) (hb : ∀ (i : Nat) (hi : i < its.length), DcTurn (C.blk scope) tg kx vx r (own.map (·.2)) its[i] (os[i]'(by omega))) (hN : C.N[i]? = some y := by rfl) (hy : C.tab.lookup y = some .local := by rfl) (hln : (py.line == pos.line) = true := by rfl)
    (ha : (scope.names.any fun (n, k) => n == y && (k == .local || k == .cell)) = false := by decide +kernel) (hk : scope.kind = .function := by rfl) (hok : blkC C.N (scopeOf C.tab) scope own = true := by first | decide +kernel | (dsimp only [CS.blk]; decide +kernel))
    (hs : ∀ (env : Env) (x : Value), foldedSetIterable iter env x = pure x := by intro _ _; rfl) : DS C (.Assign [.Name y py] (.DictComp kx vx [⟨tg, iter, [], 0⟩] scope pos) spos) r R (r.set i (.ownd (foldN [] os))) := by
  obtain ⟨wi, pi, ei⟩ := hi
  let g : TG := fun v σ H Q => ∃ g', (∀ X, (C.blk scope).S X → PG X tg g') ∧ g' v σ H Q
  let tk : TE := fun σ H Q => ∃ t', (∀ X, (C.blk scope).S X → PE X kx t') ∧ t' σ H Q
  let tv : TE := fun σ H Q => ∃ t', (∀ X, (C.blk scope).S X → PE X vx t') ∧ t' σ H Q
  refine ⟨tAsg (tDcN T wi g tk tv (own.map (·.2))) (gName i), fun X hX => ?_, fun G0 H0 σ G H D h q _ => ?_⟩
  · have c := C.ok X hX
    have mem : ∀ (s : Shared) (H : Hp) (A : Addr) (cl : List (Str × Addr)) (fp : List Addr), (C.blk scope).S (X.blk s H scope (compEnvC scope cl A X.env) fp) := fun s H A cl fp => ⟨hk, X, s, H, A, cl, fp, hX, rfl⟩
    have hyl : X.env.scope.names.lookup y = some .local := by rw [c.etab]; exact hy
    exact ps_setDcN c.eP c.ew c.eK c.room c.calm (by rw [c.eN]; exact c.nd) (by rw [c.eN]; exact hN) hyl (sw_trueD c.fk hyl hln ha) (pi X hX) (blk_of hX hok)
      (fun s H A cl fp => ⟨fun pins s σ H v u Q I rv ⟨g', p', h'⟩ => (p' _ (mem _ _ _ _ _)).run pins s σ H v u Q I rv h'⟩)
      (fun s H A cl fp => ⟨fun pins s σ H Q I ⟨g', p', h'⟩ => (p' _ (mem _ _ _ _ _)).run pins s σ H Q I h'⟩)
      (fun s H A cl fp => ⟨fun pins s σ H Q I ⟨g', p', h'⟩ => (p' _ (mem _ _ _ _ _)).run pins s σ H Q I h'⟩) (hs X.env)
  · refine dc_read ei hl rfl rfl rfl hlen hb σ G H _ h.ext.gh h.sl fun o kas G1 H1 ho x1 hg hh ra => ?_
    exact q _ G1 H1 ((h.mono x1).setOwn (h.fresh ho (.inr ⟨_, rfl⟩) x1) ⟨o, kas, rfl, hg, hh, ra⟩)
end
end DL

/-! DL, part P: zip of a list and a tuple. -/
namespace DL
open PySem PySem.Spec L2
open PyProof.Rows hiding St
def ItzM (K : PySem.W.Frag) (a b : Addr) : It :=
  ⟨fun i H => ∃ (xs ys : List V) (x y : V), SqL K H a xs ∧ SqT K H b ys ∧ xs[i]? = some x ∧ ys[i]? = some y,
    fun i H v H' => ∃ T x y, v = .ref T ∧ H T = none ∧ H' = upd H T (.tup [x, y]) ∧ (∀ xs, SqL K H a xs → xs[i]? = some x) ∧ ∀ ys, SqT K H b ys → ys[i]? = some y,
    fun i H => ∃ xs ys : List V, SqL K H a xs ∧ SqT K H b ys ∧ i ≤ xs.length ∧ i ≤ ys.length ∧ (xs.length = i ∨ ys.length = i)⟩
theorem sep_of {z TI TO i1 i2 a b : Addr} (D : ZipApart z TI TO i1 i2 a b) : ZipSep2 z TI TO i1 i2 [i1, a] [i2, b] where
  TIz := D.TIz
  TOz := D.TOz
  TITO := D.TITO
  TIi1 := D.TIi1
  mem1 := by simp
  zf1 := by simpa using ⟨D.i1z.symm, D.l1z.symm⟩
  Tf1 := by simpa using ⟨D.TOi1, D.l1TO.symm⟩
  TIi2 := D.TIi2
  mem2 := by simp
  zf2 := by simpa using ⟨D.i2z.symm, D.l2z.symm⟩
  Tf2 := by simpa using ⟨D.TOi2, D.l2TO.symm⟩
  sep1_2 := by simpa using ⟨D.i12, D.l2i1.symm⟩
  sep2_1 := by simpa using ⟨D.i12.symm, D.l1i2.symm⟩
theorem turn_zipM {P : Program} {w : World} {K : PySem.W.Frag} {elts : List Expr} {kk : Nat} {tpos : Pos} {a b z TI TO i1 i2 : Addr} (D : ZipApart z TI TO i1 i2 a b) :
    Turn P w K (.Tuple elts kk tpos) (ItzM K a b) [z, TI, TO, i1, i2] z (fun i h => IsZip h z TI TO .none ∧ IsPair h TI (.ref i1) (.ref i2) ∧ (∃ x y, IsPair h TO x y) ∧ h.IsListIter i1 a i ∧ h.IsTupleIter i2 b i) where
  mem := by simp
  obj := fun i h st c hc => by
    obtain ⟨hz, hTI, ⟨x, y, hTO⟩, ⟨o1, e1, _, d1⟩, ⟨o2, e2, _, d2⟩⟩ := st
    have e' : c = z ∨ c = TI ∨ c = TO ∨ c = i1 ∨ c = i2 := by simpa using hc
    rcases e' with q | q | q | q | q
    · rw [q]; exact ⟨_, hz, fun v q => nomatch q⟩
    · rw [q]; exact ⟨_, hTI, fun v q => nomatch q⟩
    · rw [q]; exact ⟨_, hTO, fun v q => nomatch q⟩
    · rw [q]; exact ⟨o1, e1, fun v q => by rw [d1] at q; cases q⟩
    · rw [q]; exact ⟨o2, e2, fun v q => by rw [d2] at q; cases q⟩
  keep := fun i h h' st k => by
    obtain ⟨hz, hTI, ⟨x, y, hTO⟩, h1, h2⟩ := st
    exact ⟨k z (by simp) _ hz, k TI (by simp) _ hTI, ⟨x, y, k TO (by simp) _ hTO⟩, h1.at fun o q => k i1 (by simp) o q, h2.at fun o q => k i2 (by simp) o q⟩
  item := by
    intro X hP hw hK hc i pins s σ H E I hf st hg
    subst hP hw hK
    obtain ⟨hz, hTI, ⟨x0, y0, hTO⟩, h1, h2⟩ := st
    obtain ⟨xs, ys, x, y, hqx, hqy, hx, hy⟩ := hg
    obtain ⟨its, rv, p, _⟩ := I.list hqx
    obtain ⟨its2, rv2, p2, _⟩ := I.tuple hqy
    obtain ⟨u, hu, ru⟩ := rv.get hx
    obtain ⟨u2, hu2, ru2⟩ := rv2.get hy
    have hzl : z < s.heap.objs.size := Heap.lt_size hz
    have hA : X.A.in1.handled = none := I.ok.hd hc
    have hl1 : i < its.toArray.size := by
      have := (List.getElem?_eq_some_iff.mp hu).1
      simpa using this
    have hl2 : i < its2.toArray.size := by
      have := (List.getElem?_eq_some_iff.mp hu2).1
      simpa using this
    refine wpAny_pyNext_zipD2_item (sep_of D) (.list hA i1 a D.l1i1 its.toArray) (.tuple hA i2 b D.l2i2 its2.toArray) hz hTI hTO ⟨h1, p.isList⟩ ⟨h2, show s.heap.IsTuple b its2.toArray from p2⟩ hl1 hl2 fun u' u2' h' tk q1 q2 z' TO' h1' h2' hT hsz hk => ?_
    have e1 : u' = u := by
      have : its.toArray[i]? = some u := by simpa using hu
      rw [this] at q1; exact (Option.some.inj q1).symm
    have e2 : u2' = u2 := by
      have : its2.toArray[i]? = some u2 := by simpa using hu2
      rw [this] at q2; exact (Option.some.inj q2).symm
    subst e1 e2
    refine ⟨_, rfl, wpAny_letOwnedTupleGo_zip (s := { s with heap := h', toks := tk }) z' fun h'' z'' sb => ?_⟩
    have hT2 : h''.get? s.heap.objs.size = some { cls := .type "tuple", data := .seq #[u', u2'] } := (sb.2 _ (Nat.ne_of_gt hzl)).trans hT
    have new : ObjOk X.prog X.w (upd H s.heap.objs.size (.tup [x, y])) h'' s.heap.objs.size (.tup [x, y]) :=
      ⟨by show 2 ≤ sizeLine; decide, [u', u2'], .cons ru (.cons ru2 .nil), ⟨_, hT2, rfl, _, rfl⟩⟩
    have I1 : L2.Inv X pins σ (upd H s.heap.objs.size (.tup [x, y])) { s with heap := h'', toks := tk } :=
      I.turnedNew (t' := tk) (ch := [z, TI, TO, i1, i2]) (fun c o hb q => (sb.2 c (fun q' => hb (by simp [q']))).trans (hk c o (fun q' => hb (by simp [q'])) (fun q' => hb (by simp [q'])) (fun q' => hb (by simp [q'])) (fun q' => hb (by simp [q'])) q)) hf (Nat.le_refl _) new
    refine ⟨.ref s.heap.objs.size, _, I1, rfl, ⟨_, x, y, rfl, I.hok.fresh (Nat.le_refl _), rfl, fun l hl => by rw [I.list_inj hl hqx]; exact hx, fun l hl => by rw [I.tuple_inj hl hqy]; exact hy⟩, ⟨z'', ?_, ⟨u', u2', ?_⟩, ?_, ?_⟩, fun c hcm => ?_⟩
    · exact (sb.2 _ D.TIz).trans (hk _ _ D.TIz D.TITO D.TIi1 D.TIi2 hTI)
    · exact (sb.2 _ D.TOz).trans TO'
    · exact h1'.1.at fun o q => (sb.2 _ D.i1z).trans q
    · exact h2'.1.at fun o q => (sb.2 _ D.i2z).trans q
    · have hlt : c < s.heap.objs.size := by
        have e' : c = z ∨ c = TI ∨ c = TO ∨ c = i1 ∨ c = i2 := by simpa using hcm
        rcases e' with q | q | q | q | q
        · rw [q]; exact hzl
        · rw [q]; exact Heap.lt_size hTI
        · rw [q]; exact Heap.lt_size hTO
        · rw [q]; obtain ⟨_, e1, _⟩ := h1; exact Heap.lt_size e1
        · rw [q]; obtain ⟨_, e2, _⟩ := h2; exact Heap.lt_size e2
      rw [upd_ne (Nat.ne_of_lt hlt)]
      exact (hf c hcm).1
  done := by
    intro X hP hw hK hc i pins s σ H E I hf st hg
    subst hP hw hK
    obtain ⟨hz, hTI, ⟨x0, y0, hTO⟩, h1, h2⟩ := st
    obtain ⟨xs, ys, hqx, hqy, hi1, hi2, hend⟩ := hg
    obtain ⟨its, rv, p, _⟩ := I.list hqx
    obtain ⟨its2, rv2, p2, _⟩ := I.tuple hqy
    have l1 := rv.length
    have l2 := rv2.length
    have hA : X.A.in1.handled = none := I.ok.hd hc
    have z1 : i ≤ its.toArray.size := by simp; omega
    have z2 : i ≤ its2.toArray.size := by simp; omega
    have z3 : i = its.toArray.size ∨ i = its2.toArray.size := by simp; omega
    exact wpAny_pyNext_zipD2_end (sep_of D) (.list hA i1 a D.l1i1 its.toArray) (.tuple hA i2 b D.l2i2 its2.toArray) hz hTI hTO ⟨h1, p.isList⟩ ⟨h2, show s.heap.IsTuple b its2.toArray from p2⟩ z1 z2 z3 fun h' tk hk => ⟨rfl, I.turnedL (t' := tk) (ch := [z, TI, TO, i1, i2]) (fun c o hb q =>
      hk c o (fun q' => hb (by simp [q'])) (fun q' => hb (by simp [q'])) (fun q' => hb (by simp [q'])) (fun q' => hb (by simp [q'])) q) hf⟩
  self := fun A i s Q E st h => wpAny_pyIter_zip st.1 h
def iZipM (K : PySem.W.Frag) (ta : TA) : TI := fun σ H R => ta σ H fun vs H1 => ∃ a b xs ys, vs = [.ref a, .ref b] ∧ SqL K H1 a xs ∧ SqT K H1 b ys ∧ R (ItzM K a b) H1
theorem pi_zipM {X : Cx} {e e2 : Expr} {ta : TA} {p pos tpos : Pos} {elts : List Expr} {kk : Nat} (hg : Gl X "zip") (hm : X.mg "zip" = none) (ha : PA X [e, e2] ta)
    (hs : starEach [e, e2] X.env = (false, eval e X.env) :: starEach [e2] X.env := by rfl) (hpl : (backTo pos (starEach [e2] X.env)).any (·.1) = false := by rfl) :
    PI X (.Tuple elts kk tpos) (.Call (.Name "zip" p) [e, e2] [] pos) (iZipM X.K ta) := by
  refine ⟨fun pins s σ H R I h => ?_⟩
  refine Call_ (ld_blt I hg hm PyProof.Rows.boot_zip (PyProof.Rows.callWith_type1 (thn (ha.run pos pins s σ H _ I h) fun us s1 ⟨vs, H1, I1, r1, q1⟩ => ?_) hs hpl))
  obtain ⟨a, b, xs, ys, ex, hqx, hqy, q⟩ := q1
  subst ex
  cases r1 with
  | cons r rr =>
    cases rr with
    | cons r' rr =>
      cases rr
      cases r
      cases r'
      obtain ⟨its, rv, p1, _⟩ := I1.list hqx
      obtain ⟨its2, rv2, p2, _⟩ := I1.tuple hqy
      have la : a < s1.heap.objs.size := p1.lt
      obtain ⟨o2, ho2, _⟩ := id p2
      have lb : b < s1.heap.objs.size := Heap.lt_size ho2
      refine zip_begins2 (begins_list a its.toArray) (begins_tuple b its2.toArray) p1.isList (show s1.heap.IsTuple b its2.toArray from p2) fun h' hz hTI hTO h1 h2 hsz hk => wpAny_pyIter_zip hz ?_
      have I2 : L2.Inv X pins σ H1 { s1 with heap := h' } := I1.kept (t' := s1.toks) hk
      refine ⟨s1.heap.objs.size + 4, [s1.heap.objs.size + 4, s1.heap.objs.size + 2, s1.heap.objs.size + 3, s1.heap.objs.size, s1.heap.objs.size + 1], _, _, H1, rfl, I2, turn_zipM (PySem.W.ktu_apart s1.heap.objs.size a b la lb), ⟨hz, hTI, ⟨_, _, hTO⟩, ⟨_, h1, rfl, rfl⟩, ⟨_, h2, rfl, rfl⟩⟩, fun c hcm => ?_, q⟩
      have e' : c = s1.heap.objs.size + 4 ∨ c = s1.heap.objs.size + 2 ∨ c = s1.heap.objs.size + 3 ∨ c = s1.heap.objs.size ∨ c = s1.heap.objs.size + 1 := by simpa using hcm
      have hle : s1.heap.objs.size ≤ c := by
        rcases e' with z | z | z | z | z
        · rw [z]; exact Nat.le_add_right _ _
        · rw [z]; exact Nat.le_add_right _ _
        · rw [z]; exact Nat.le_add_right _ _
        · rw [z]; exact Nat.le_refl _
        · rw [z]; exact Nat.le_add_right _ _
      exact I1.fpOk hle (I1.hok.fresh hle)
section
variable {T : Tx} {C : CS T} {r r1 : Sls} {R : PyData → Prop} {a b c e tg : Expr} {ts : List Expr} {kk : Nat} {pos p p2 pos' tpos : Pos} {d d' f : PyData} {ds ds' : List PyData}
/-- zip of a list and a tuple of one length -/
theorem di_zipM (B : Blt T) (ha : DE C a r (.list ds)) (hb : DE C b r (.tuple ds')) (hlen : ds.length = ds'.length) (hg : C.tab.lookup ("zip" : Str) = some .globalImplicit := by rfl)
    (hs : ∀ env : Env, starEach [a, b] env = (false, eval a env) :: starEach [b] env := by intro _; rfl) (hs2 : ∀ env : Env, starEach [b] env = [(false, eval b env)] := by intro _; rfl) (hpl : ∀ env : Env, (backTo pos (starEach [b] env)).any (·.1) = false := by intro _; rfl) :
    DI C (.Tuple ts kk tpos) (.Call (.Name "zip" p) [a, b] [] pos) r (zipD ds ds') := by
  obtain ⟨t, pt, et⟩ := das_cons ha (das_cons hb das_nil hs2) hs
  refine ⟨iZipM T.K t, fun X hX => ?_, fun σ G H R e s q => ?_⟩
  · have c := C.ok X hX
    have h := pi_zipM (elts := ts) (kk := kk) (tpos := tpos) (p := p) (pos := pos) (gl_of c.etab hg) (by rw [c.emg]; exact B.zip) (pt X hX) (hs X.env) (hpl X.env)
    rw [c.eK] at h
    exact h
  · refine et σ G H _ e s fun vs G1 H1 x1 r1 => ?_
    obtain ⟨v, u, rfl, r2, r3⟩ := r1.two_inv
    obtain ⟨o, xs, rfl, h1, h2⟩ := r2.lst_inv
    obtain ⟨o', ys, rfl, h1', h2'⟩ := r3.tup_inv
    refine ⟨o, o', xs, ys, rfl, SqL.of (x1.gh _ _ h1), same_t x1.gh h1', q _ G1 H1 x1 ⟨fun i d G H hd e1 e2 => ?_, fun G H e1 e2 => ?_⟩⟩
    · obtain ⟨d, d', hk, hk', rfl⟩ := zipD_get hd
      obtain ⟨v, hv, rv⟩ := h2.get hk
      obtain ⟨v', hv', rv'⟩ := h2'.get hk'
      have hl := SqL.of (K := T.K) (e2 _ _ (e1 _ _ h1))
      have hl' := same_t e2 (same_t e1 h1')
      refine ⟨⟨xs, ys, v, v', hl, hl', hv, hv'⟩, fun x H' y => ?_⟩
      obtain ⟨o, z, z', rfl, hn, rfl, y, y'⟩ := y
      have e3 := y xs hl
      rw [hv] at e3; cases e3
      have e4 := y' ys hl'
      rw [hv'] at e4; cases e4
      have sn := same_new (o := .tup [v, v']) (e2.free hn)
      exact ⟨_, .new e2 hn, .tup (SqT.of upd_same) (.cons ((rv.mono e1).mono sn) (.cons ((rv'.mono e1).mono sn) .nil))⟩
    · refine ⟨xs, ys, SqL.of (e2 _ _ (e1 _ _ h1)), same_t e2 (same_t e1 h1'), ?_⟩
      rw [h2.length, h2'.length, zipD_length]; omega
end
end DL

/-! DL, part R: min and sorted of lists of data. -/
namespace DL
open PySem PySem.Spec L2
open PyProof.Rows hiding St
section
variable {T : Tx} {X : Cx} {pins : List (Addr × Obj)} {σ : L2.St} {H : Hp} {s : Shared}
mutual
theorem reads_of (I : L2.Inv X pins σ H s) (eK : X.K = T.K) : ∀ (d : PyData) (v : V) (u : Value), noDict d = true → Rp T H v d → RelV v u → ∃ as, Reads s.heap u d as
  | .none, _, _, _, .non, r => by cases r; exact ⟨_, .none⟩
  | .bool _, _, _, _, .bl _, r => by cases r; exact ⟨_, .bool _⟩
  | .int _, _, _, _, .int _, r => by obtain ⟨t, rfl⟩ := r; exact ⟨_, .int _ _⟩
  | .str _, _, _, _, .str _, r => by obtain ⟨t, rfl⟩ := r; exact ⟨_, .str _ _⟩
  | .list ds, _, _, n, .lst h q, r => by
    cases r
    obtain ⟨its, rv, ⟨o, n', e, hc, _, hd⟩, _⟩ := I.list (SqL.of h)
    obtain ⟨as, ra⟩ := readsAll_of I eK ds _ _ (by simpa [noDict] using n) q rv
    exact ⟨_, .list e hc hd (by simpa using ra)⟩
  | .tuple ds, _, _, n, .tup h q, r => by
    cases r
    rw [← eK] at h
    obtain ⟨its, rv, ⟨o, e, hc, n', hd⟩, _⟩ := I.tuple h
    obtain ⟨as, ra⟩ := readsAll_of I eK ds _ _ (by simpa [noDict] using n) q rv
    exact ⟨_, .tuple e hc hd (by simpa using ra)⟩
theorem readsAll_of (I : L2.Inv X pins σ H s) (eK : X.K = T.K) : ∀ (ds : List PyData) (vs : List V) (us : List Value), noDicts ds = true → RpAll T H vs ds → Vals vs us → ∃ as, ReadsAll s.heap us ds as
  | [], _, _, _, .nil, .nil => ⟨_, .nil⟩
  | d :: ds, _, _, n, .cons h q, .cons r rr => by
    have n' : noDict d = true ∧ noDicts ds = true := by simpa [noDicts] using n
    obtain ⟨as, ra⟩ := reads_of I eK d _ _ n'.1 h r
    obtain ⟨bs, rb⟩ := readsAll_of I eK ds _ _ n'.2 q rr
    exact ⟨_, .cons ra rb⟩
end
theorem noDicts_mem : ∀ {ds : List PyData}, noDicts ds = true → ∀ d ∈ ds, noDict d = true
  | [], _, _, h => nomatch h
  | e :: ds, n, d, h => by
    have n' : noDict e = true ∧ noDicts ds = true := by simpa [noDicts] using n
    rcases List.mem_cons.mp h with rfl | h
    · exact n'.1
    · exact noDicts_mem n'.2 d h
theorem eachR_of (I : L2.Inv X pins σ H s) (eK : X.K = T.K) : ∀ {ds : List PyData} {vs : List V} {us : List Value}, noDicts ds = true → RpAll T H vs ds → Vals vs us → PySem.W.EachIs (fun v (b : PyData) => ∃ as, Reads s.heap v (id b) as) us ds
  | [], _, _, _, .nil, .nil => .nil
  | d :: ds, _, _, n, .cons h q, .cons r rr => by
    have n' : noDict d = true ∧ noDicts ds = true := by simpa [noDicts] using n
    exact .cons (reads_of I eK d _ _ n'.1 h r) (eachR_of I eK n'.2 q rr)
theorem each_of {G : Hp} : ∀ {ds : List PyData} {vs : List V} {us : List Value}, RpAll T G vs ds → Vals vs us → PySem.W.EachIs (fun u (b : PyData) => ∃ x, RelV x u ∧ Rp T G x b) us ds
  | _, _, _, .nil, .nil => .nil
  | _, _, _, .cons h q, .cons r rr => .cons ⟨_, r, h⟩ (each_of q rr)
theorem each_back {G : Hp} : ∀ {us : List Value} {ds : List PyData}, PySem.W.EachIs (fun u (b : PyData) => ∃ x, RelV x u ∧ Rp T G x b) us ds → ∃ xs, Vals xs us ∧ RpAll T G xs ds
  | _, _, .nil => ⟨[], .nil, .nil⟩
  | _, _, .cons ⟨x, r, h⟩ t => by
    obtain ⟨xs, a, b⟩ := each_back t
    exact ⟨x :: xs, .cons r a, .cons h b⟩
theorem minD_mem (d : PyData) (ds : List PyData) : PySem.W.minD d ds ∈ d :: ds := by
  unfold PySem.W.minD
  induction ds generalizing d with
  | nil => simp
  | cons e ds ih =>
    rw [List.foldl_cons]
    rcases List.mem_cons.mp (ih (if PySem.W.dataLt e d = true then e else d)) with h | h
    · rw [h]
      split <;> simp
    · simp [h]
def rMinD (T : Tx) : List V → Hp → VK → Prop := fun vs H Q => ∃ (G : Hp) (a : Addr) (xs : List V) (d : PyData) (ds : List PyData), vs = [V.ref a] ∧ Same G H ∧ H a = some (.lst xs) ∧ RpAll T G xs (d :: ds) ∧ noDicts (d :: ds) = true ∧ PySem.W.AlikeAll (d :: ds) ∧ PyData.depthAll (d :: ds) ≤ 6 ∧
  ∀ (x : V), Rp T G x (PySem.W.minD d ds) → Q x H
variable {C : CS T}
theorem cr_minD (hX : C.S X) : CallR X (.builtin "min") (rMinD T) := by
  intro pins s σ H vs us Q I r h
  have c := C.ok X hX
  obtain ⟨G, a, xs, d, ds, rfl, hG, ha, hr, hn, hal, hdp, q⟩ := h
  obtain ⟨its, rv, hl, hz⟩ := I.list (SqL.of ha)
  rw [Vals.ref1 r]
  obtain ⟨as, ra⟩ := readsAll_of I c.eK _ _ _ hn (hr.mono hG) rv
  have hu := c.room.un
  refine PySem.W.min_list_data (I.ok.hd c.calm) hl.isList (by simpa using ra) hal (by omega) fun i v h' tk bs hi hv hk => ?_
  have hi' : its[i]? = some v := by simpa using hi
  obtain ⟨x, hx, rx⟩ : ∃ x, xs[i]? = some x ∧ RelV x v := by
    have hlen := rv.length
    have hlt : i < xs.length := by
      have := (List.getElem?_eq_some_iff.mp hi').1
      omega
    obtain ⟨u, hu, ru⟩ := rv.get (List.getElem?_eq_getElem hlt)
    rw [hi'] at hu
    cases hu
    exact ⟨_, List.getElem?_eq_getElem hlt, ru⟩
  obtain ⟨e, he, re⟩ : ∃ e, (d :: ds)[i]? = some e ∧ Rp T G x e := by
    have hlen := hr.length
    have hlt : i < (d :: ds).length := by
      have := (List.getElem?_eq_some_iff.mp hx).1
      omega
    obtain ⟨y, hy, ry⟩ := hr.get (List.getElem?_eq_getElem hlt)
    rw [hx] at hy
    cases hy
    exact ⟨_, List.getElem?_eq_getElem hlt, ry⟩
  have hme : e ∈ d :: ds := List.mem_of_getElem? he
  obtain ⟨bs', rr⟩ := reads_of I c.eK _ _ _ (noDicts_mem hn e hme) (re.mono hG) rx
  have e1 : e = PySem.W.minD d ds := PySem.W.alike_unique _ _ _ _ _ (hal.1 _ hme _ (minD_mem d ds)) (PyProof.Rows.Reads.keeps hk rr) hv
  rw [← e1] at q
  exact ⟨x, H, I.kept hk, rx, q x re⟩
def rSortedD (T : Tx) : List V → Hp → VK → Prop := fun vs H Q => ∃ (G : Hp) (a : Addr) (xs : List V) (ds : List PyData), vs = [V.ref a] ∧ Same G H ∧ H a = some (.lst xs) ∧ RpAll T G xs ds ∧ noDicts ds = true ∧ PySem.W.AllAlike ds ∧ PySem.W.Sortable ds ∧ (∀ d ∈ ds, d.depth ≤ 6) ∧
  ∀ (ys : List V) (p : Addr), RpAll T G ys (ds.mergeSort (PySem.W.dataLe false id)) → H p = none → Q (.ref p) (upd H p (.lst ys))
theorem cr_sortedD (hX : C.S X) : CallR X (.builtin "sorted") (rSortedD T) := by
  intro pins s σ H vs us Q I r h
  have c := C.ok X hX
  obtain ⟨G, a, xs, ds, rfl, hG, ha, hr, hn, hal, hso, hdp, q⟩ := h
  obtain ⟨its, rv, hl, hz⟩ := I.list (SqL.of ha)
  rw [Vals.ref1 r]
  have hu := c.room.un
  refine PySem.W.sorted_data (enc := id) hl.isList (each_of hr rv) (eachR_of I c.eK hn (hr.mono hG) rv) (by simpa using hal) (by simpa using hso) (by rw [← hr.length]; exact hz) (fun b hb => ?_) fun out ho he => ?_
  · have := hdp b hb
    show _ + b.depth < _
    omega
  · obtain ⟨ys, rv', rp⟩ := each_back he
    obtain ⟨ep, he'⟩ := PyProof.Rows.sortedAll_at s.heap its out.toArray
    have hlen : ys.length ≤ sizeLine := by
      rw [rp.length, List.length_mergeSort, ← hr.length]
      exact hz
    exact ⟨.ref _, upd H (s.heap.objs.size + 1) (.lst ys), I.laid (t' := s.toks) (fun _ _ => PyProof.Rows.sortedAll_old) (Nat.le_succ _) ⟨hlen, out, ep, rv', he'⟩, rfl, q _ _ rp (I.hok.fresh (Nat.le_succ _))⟩
end
section
variable {T : Tx} {C : CS T} {r r1 : Sls} {R : PyData → Prop} {a b c e tg : Expr} {pos p p2 pos' tpos : Pos} {d d' f : PyData} {ds ds' : List PyData}
variable (B : Blt T)
include B
theorem de_minD (ha : DE C a r (.list (d :: ds))) (hn : noDicts (d :: ds) = true) (hal : PySem.W.AlikeAll (d :: ds)) (hdp : PyData.depthAll (d :: ds) ≤ 6) (hg : C.tab.lookup ("min" : Str) = some .globalImplicit := by rfl) (hs : ∀ env : Env, starEach [a] env = (false, eval a env) :: starEach [] env := by intro _; rfl) : DE C (.Call (.Name "min" p) [a] [] pos) r (PySem.W.minD d ds) := by
  refine de_callB (id := "min") (rr := rMinD T) (fun X hX => cr_minD hX) B.min (by decide +kernel) (das_cons ha das_nil hs) (fun G H vs Q e h q => ?_) hg (by decide) (by decide) hs (fun _ => rfl)
  obtain ⟨v, rfl, h1⟩ := h.one_inv
  obtain ⟨p, xs, rfl, h2, h3⟩ := h1.lst_inv
  exact ⟨G, p, xs, d, ds, rfl, e, e _ _ h2, h3, hn, hal, hdp, fun x hx => q _ G H (.refl e) hx⟩
theorem de_sortedD (ha : DE C a r (.list ds)) (hn : noDicts ds = true) (hal : PySem.W.AllAlike ds) (hso : PySem.W.Sortable ds) (hdp : ∀ d ∈ ds, d.depth ≤ 6) (hg : C.tab.lookup ("sorted" : Str) = some .globalImplicit := by rfl) (hs : ∀ env : Env, starEach [a] env = (false, eval a env) :: starEach [] env := by intro _; rfl) : DE C (.Call (.Name "sorted" p) [a] [] pos) r (.list (ds.mergeSort (PySem.W.dataLe false id))) := by
  refine de_callB (id := "sorted") (rr := rSortedD T) (fun X hX => cr_sortedD hX) B.sorted (by decide +kernel) (das_cons ha das_nil hs) (fun G H vs Q e h q => ?_) hg (by decide) (by decide) hs (fun _ => rfl)
  obtain ⟨v, rfl, h1⟩ := h.one_inv
  obtain ⟨p, xs, rfl, h2, h3⟩ := h1.lst_inv
  refine ⟨G, p, xs, ds, rfl, e, e _ _ h2, h3, hn, hal, hso, hdp, fun ys o hy ho => ?_⟩
  have sn := same_new (o := .lst ys) (e.free ho)
  exact q _ _ _ (.new e ho) (.lst upd_same (hy.mono sn))
end
/-! ### the order of data -/
def pairI (p : Int × Int) : PyData := .tuple [.int p.1, .int p.2]
def ltI (p q : Int × Int) : Bool := decide (p.1 < q.1 ∨ p.1 = q.1 ∧ p.2 < q.2)
theorem eqv_int (a b : Int) : PyData.eqv (.int a) (.int b) = decide (a = b) := by
  rw [PyData.eqv]
  by_cases h : a = b <;> simp [h]
theorem lt_pair (p q : Int × Int) : PySem.W.dataLt (pairI p) (pairI q) = ltI p q := by
  obtain ⟨a, b⟩ := p
  obtain ⟨c, d⟩ := q
  have h0 : PySem.W.dataLt (pairI (a, b)) (pairI (c, d)) = PyProof.Rows.lexLt itemOrd (PySem.W.keyToksAll [.int a, .int b]) (PySem.W.keyToksAll [.int c, .int d]) := by
    unfold PySem.W.dataLt pairI
    rw [PySem.W.keyToks, PySem.W.keyToks]
  have al : ∀ x y : Int, PySem.W.alike (.int x) (.int y) = true := fun x y => by rw [PySem.W.alike]
  rw [h0]
  unfold ltI
  by_cases e : a = c
  · subst e
    rw [PySem.W.dataLt_all_yes (al a a) (by rw [eqv_int]; simp)]
    by_cases e2 : b = d
    · subst e2
      rw [PySem.W.dataLt_all_yes (al b b) (by rw [eqv_int]; simp)]
      simp [PySem.W.keyToksAll]
      exact lex_irrefl (O := itemOrd) _
    · rw [PySem.W.dataLt_all_no (al b d) (by rw [eqv_int]; simpa using e2), PySem.W.dataLt_int]
      simp
  · rw [PySem.W.dataLt_all_no (al a c) (by rw [eqv_int]; simpa using e), PySem.W.dataLt_int]
    simp [e]
def lexI : List Int → List Int → Bool
  | [], [] => false
  | [], _ :: _ => true
  | _ :: _, [] => false
  | a :: as, b :: bs => if a = b then lexI as bs else decide (a < b)
theorem lt_ints : ∀ ns ms : List Int, PyProof.Rows.lexLt itemOrd (PySem.W.keyToksAll (ns.map PyData.int)) (PySem.W.keyToksAll (ms.map PyData.int)) = lexI ns ms
  | [], [] => by
    simp only [List.map_nil, PySem.W.keyToksAll, lexI]
    exact lex_irrefl (O := itemOrd) _
  | [], m :: ms => by
    rw [List.map_nil, List.map_cons, PySem.W.toks_all_cons, PySem.W.keyToksAll, PySem.W.lex_atom (by simp)]
    exact (by decide : PyProof.Rows.lexLt itemOrd [.inl 0] [.inl 1] = true)
  | n :: ns, [] => by
    rw [List.map_nil, List.map_cons, PySem.W.toks_all_cons, PySem.W.keyToksAll, PySem.W.lex_atom (by simp)]
    exact (by decide : PyProof.Rows.lexLt itemOrd [.inl 1] [.inl 0] = false)
  | n :: ns, m :: ms => by
    have al : PySem.W.alike (.int n) (.int m) = true := by rw [PySem.W.alike]
    rw [List.map_cons, List.map_cons]
    unfold lexI
    by_cases e : n = m
    · subst e
      rw [PySem.W.dataLt_all_yes al (by rw [eqv_int]; simp), if_pos rfl]
      exact lt_ints ns ms
    · rw [PySem.W.dataLt_all_no al (by rw [eqv_int]; simpa using e), PySem.W.dataLt_int, if_neg e]
def costD (p : Int × List Int) : PyData := .tuple [.int p.1, .list (p.2.map PyData.int)]
def ltC (p q : Int × List Int) : Bool := decide (p.1 < q.1) || (decide (p.1 = q.1) && lexI p.2 q.2)
theorem alike_ints : ∀ ns ms : List Int, PySem.W.alikeAll (ns.map PyData.int) (ms.map PyData.int) = true
  | [], ms => by rw [List.map_nil, PySem.W.alikeAll]
  | n :: ns, [] => by rw [List.map_nil, List.map_cons, PySem.W.alikeAll]
  | n :: ns, m :: ms => by rw [List.map_cons, List.map_cons, PySem.W.alikeAll, PySem.W.alike, alike_ints ns ms]; rfl
theorem eqv_ints : ∀ ns ms : List Int, PyData.eqvAll (ns.map PyData.int) (ms.map PyData.int) = decide (ns = ms)
  | [], [] => by simp [PyData.eqvAll]
  | [], m :: ms => by simp [PyData.eqvAll]
  | n :: ns, [] => by simp [PyData.eqvAll]
  | n :: ns, m :: ms => by
    rw [List.map_cons, List.map_cons, PyData.eqvAll, eqv_int, eqv_ints ns ms]
    by_cases h : n = m <;> by_cases h' : ns = ms <;> simp [h, h']
theorem lexI_irr : ∀ ns : List Int, lexI ns ns = false
  | [] => rfl
  | n :: ns => by rw [lexI, if_pos rfl]; exact lexI_irr ns
theorem lt_cost (p q : Int × List Int) : PySem.W.dataLt (costD p) (costD q) = ltC p q := by
  obtain ⟨a, b⟩ := p
  obtain ⟨c, d⟩ := q
  unfold costD
  rw [PySem.W.dataLt_tuple]
  have al : ∀ x y : Int, PySem.W.alike (.int x) (.int y) = true := fun x y => by rw [PySem.W.alike]
  have al2 : PySem.W.alike (.list (b.map PyData.int)) (.list (d.map PyData.int)) = true := by rw [PySem.W.alike]; exact alike_ints b d
  unfold ltC
  by_cases e : a = c
  · subst e
    rw [PySem.W.dataLt_all_yes (al a a) (by rw [eqv_int]; simp)]
    by_cases e2 : b = d
    · subst e2
      rw [PySem.W.dataLt_all_yes al2 (by rw [PyData.eqv, eqv_ints]; simp)]
      simp [PySem.W.keyToksAll, lexI_irr]
      exact lex_irrefl (O := itemOrd) _
    · rw [PySem.W.dataLt_all_no al2 (by rw [PyData.eqv, eqv_ints]; simpa using e2), PySem.W.dataLt_list, lt_ints]
      simp
  · rw [PySem.W.dataLt_all_no (al a c) (by rw [eqv_int]; simpa using e), PySem.W.dataLt_int]
    simp [e]
def minE {α : Type} (lt : α → α → Bool) (x : α) (xs : List α) : α := xs.foldl (fun a y => if lt y a = true then y else a) x
theorem minD_enc {α : Type} {enc : α → PyData} {lt : α → α → Bool} (h : ∀ x y, PySem.W.dataLt (enc x) (enc y) = lt x y) (x : α) (xs : List α) : PySem.W.minD (enc x) (xs.map enc) = enc (minE lt x xs) := by
  unfold PySem.W.minD minE
  induction xs generalizing x with
  | nil => rfl
  | cons y ys ih =>
    rw [List.map_cons, List.foldl_cons, List.foldl_cons, h]
    by_cases hb : lt y x = true
    · rw [if_pos hb, if_pos hb]; exact ih y
    · rw [if_neg hb, if_neg hb]; exact ih x
theorem sorted_enc {α : Type} {enc : α → PyData} {lt : α → α → Bool} (h : ∀ x y, PySem.W.dataLt (enc x) (enc y) = lt x y) (xs : List α) : (xs.map enc).mergeSort (PySem.W.dataLe false id) = (xs.mergeSort fun a b => !lt b a).map enc := by
  refine (List.map_mergeSort fun a _ b _ => ?_).symm
  show (!lt b a) = !PyProof.Rows.lexLt itemOrd (PySem.W.keyToks (enc b)) (PySem.W.keyToks (enc a))
  rw [← h b a]
  rfl
theorem alike_pair (p q : Int × Int) : PySem.W.alike (pairI p) (pairI q) = true := by
  unfold pairI
  rw [PySem.W.alike]
  simp [PySem.W.alikeAll, PySem.W.alike]
theorem alike_cost (p q : Int × List Int) : PySem.W.alike (costD p) (costD q) = true := by
  unfold costD
  rw [PySem.W.alike]
  simp [PySem.W.alikeAll, PySem.W.alike]
  exact alike_ints _ _
theorem depth_ints : ∀ ns : List Int, PyData.depthAll (ns.map PyData.int) ≤ 1
  | [] => by simp [PyData.depthAll]
  | n :: ns => by
    rw [List.map_cons, PyData.depthAll]
    have := depth_ints ns
    simp [PyData.depth]
    omega
theorem depthAll_le {k : Nat} : ∀ {ds : List PyData}, (∀ d ∈ ds, d.depth ≤ k) → PyData.depthAll ds ≤ k
  | [], _ => by simp [PyData.depthAll]
  | d :: ds, h => by
    rw [PyData.depthAll]
    exact Nat.max_le.mpr ⟨h d (by simp), depthAll_le fun e he => h e (by simp [he])⟩
end DL

/-! DL, part Q: items of owned lists stored. -/
namespace DL
open PySem PySem.Spec L2
open PyProof.Rows hiding St
section
variable {T : Tx} {C : CS T} {r r1 : Sls} {R : PyData → Prop} {a b c e tg : Expr} {pos p p2 pos' tpos np : Pos} {d d' f : PyData} {ds ds' : List PyData}
def rGetL (K : PySem.W.Frag) : V → V → Hp → VK → Prop := fun x y H Q => ∃ p xs i v, x = .ref p ∧ y = .int i ∧ SqL K H p xs ∧ 0 ≤ i ∧ xs[i.toNat]? = some v ∧ Q v H
theorem get_list {X : Cx} : PGet X (rGetL X.K) := by
  intro pins s σ H x y v u Q I rx ry h
  obtain ⟨p, xs, i, z, rfl, rfl, hq, h0, he, q⟩ := h
  cases rx
  obtain ⟨t, rfl⟩ := ry
  obtain ⟨its, r, pl, hz⟩ := I.list hq
  obtain ⟨w, ew, rw'⟩ := r.get he
  have hl := r.length
  have hn := line63
  have hlt : i.toNat < xs.length := (List.getElem?_eq_some_iff.mp he).1
  exact wpAny_getItem_list pl.isList h0 (by omega) (by simpa using ew) ⟨z, H, I, rw', q⟩
theorem ixN_of {n : Nat} {k : Int} (h0 : 0 ≤ k) (h : k.toNat < n) : ixN n k = some k.toNat := by
  unfold ixN
  rw [if_pos h0, if_pos (by omega)]
/-- x[e1] = e2, x an owned list -/
theorem ds_setAt (i : Nat) {x : Str} {k : Int} (hr : r[i]? = some (.own ds)) (he : DE C e r d) (ha : DE C a r (.int k)) (h0 : 0 ≤ k) (hk : k.toNat < ds.length) (hN : C.N[i]? = some x := by rfl) (hv : visB C.tab x = true := by rfl)
    (hd : (x == ("__debug__" : Str)) = false := by decide) (hcd : (x == ("__classdict__" : Str)) = false := by decide) (hs : ∀ env : Env, swapsWithSole [.Subscript (.Name x np) a tpos] e pos.line env = pure false := by intro _; rfl) (hw : ∀ env : Env, swappedStores [.Subscript (.Name x np) a tpos] e env = pure none := by intro _; rfl)
    (hst : ∀ (env : Env) v, assign (.Subscript (.Name x np) a tpos) env v = (do
      let ov ← holding [v] (eval (.Name x np) env)
      let iv ← holding [v, ov] (eval a env)
      standAt tpos
      holding [v, ov, iv] (setItem ov iv v)
      release [v, ov, iv] []) := by intro _ _; rfl)
    (h1 : ∀ env : Env, (assignEach [.Subscript (.Name x np) a tpos] env).map (·.2) = [assign (.Subscript (.Name x np) a tpos) env] := by intro _; rfl) :
    DS C (.Assign [.Subscript (.Name x np) a tpos] e pos) r R (r.set i (.own (ds.set k.toNat d))) := by
  obtain ⟨t, pt, et⟩ := he
  obtain ⟨ta, pa, ea⟩ := ha
  refine ⟨tAsg t (gSub (tVar i) ta rSetL), fun X hX => ?_, fun G0 H0 σ G H D h q _ => ?_⟩
  · have c := C.ok X hX
    have hv1 : PE X (.Name x np) (tVar i) := pe_var (by rw [c.eN]; exact hN) (vis_of (by rw [c.etab]; exact hv)) hd hcd
    exact ps_asg (pt X hX) (pg_sub hv1 (pa X hX) set_list (hst X.env)) (hs X.env) (hw X.env) (h1 X.env)
  · obtain ⟨o, xs, e1, e2, e3, e4⟩ := h.sl.at_ i _ hr
    refine et σ G H _ h.ext.gh h.sl fun v G1 H1 x1 r1 => ⟨_, e1, ?_⟩
    refine ea σ G1 H1 _ x1.gh (h.sl.mono x1) fun y G2 H2 x2 r2 => ?_
    have x := x1.trans x2
    have h' := h.mono x
    have e3' := x.h _ _ e3
    refine ⟨o, xs, k, k.toNat, rfl, r2.int_inv, e3', ixN_of h0 (by rw [e4.length]; exact hk), ?_⟩
    exact q σ G2 _ (h'.change ⟨e1, .inl ⟨ds, hr⟩⟩ ⟨o, _, rfl, x.sep _ _ e3 e2, upd_same, RpAll.set (r1.mono x2.g) k.toNat (e4.mono x.g)⟩ (.inl ⟨_, rfl⟩))
/-- x[e1] += e2 of ints, x an owned list -/
theorem ds_augAt (i : Nat) {x : Str} {k m n : Int} (hr : r[i]? = some (.own ds)) (ha : DE C a r (.int k)) (he : DE C e r (.int n)) (h0 : 0 ≤ k) (hk : ds[k.toNat]? = some (.int m)) (hN : C.N[i]? = some x := by rfl) (hv : visB C.tab x = true := by rfl)
    (hd : (x == ("__debug__" : Str)) = false := by decide) (hcd : (x == ("__classdict__" : Str)) = false := by decide)
    (hst : ∀ (ov iv new : Value), augStore a ov iv new = (do holding [new, ov, iv] (setItem ov iv new); release [new, ov, iv] []; pure .next) := by intros; rfl) :
    DS C (.AugAssign (.Subscript (.Name x np) a tpos) .Add e pos) r R (r.set i (.own (ds.set k.toNat (.int (m + n))))) := by
  obtain ⟨t, pt, et⟩ := he
  obtain ⟨ta, pa, ea⟩ := ha
  refine ⟨tAugS (tVar i) ta t (rGetL T.K) (ipI fun i j => i + j) rSetL, fun X hX => ?_, fun G0 H0 σ G H D h q _ => ?_⟩
  · have c := C.ok X hX
    have hv1 : PE X (.Name x np) (tVar i) := pe_var (by rw [c.eN]; exact hN) (vis_of (by rw [c.etab]; exact hv)) hd hcd
    have hg := get_list (X := X)
    rw [c.eK] at hg
    exact ps_augS hv1 (pa X hX) hg (pt X hX) ip_add set_list hst
  · obtain ⟨o, xs, e1, e2, e3, e4⟩ := h.sl.at_ i _ hr
    refine ⟨_, e1, ?_⟩
    refine ea σ G H _ h.ext.gh h.sl fun y G1 H1 x1 r1 => ?_
    obtain ⟨v, hv, rv⟩ := (e4.mono x1.g).get hk
    refine ⟨o, xs, k, v, rfl, r1.int_inv, SqL.of (x1.h _ _ e3), h0, hv, ?_⟩
    refine et σ G1 H1 _ x1.gh (h.sl.mono x1) fun y G2 H2 x2 r2 => ⟨m, n, (rv.mono x2.g).int_inv, r2.int_inv, ?_⟩
    have x := x1.trans x2
    have h' := h.mono x
    have hlt : k.toNat < xs.length := (List.getElem?_eq_some_iff.mp hv).1
    refine ⟨o, xs, k, k.toNat, rfl, r1.int_inv, x.h _ _ e3, ixN_of h0 hlt, ?_⟩
    exact q σ G2 _ (h'.change ⟨e1, .inl ⟨ds, hr⟩⟩ ⟨o, _, rfl, x.sep _ _ e3 e2, upd_same, RpAll.set (.int _) k.toNat (e4.mono x.g)⟩ (.inl ⟨_, rfl⟩))
theorem flatAll {G' : Hp} (G : Hp) : ∀ (xs : List V) (ds : List PyData), (∀ d ∈ ds, flatD d = true) → RpAll T G' xs ds → RpAll T G xs ds
  | [], ds, _, h => by cases h; exact .nil
  | v :: vs, ds, f, h => by
    cases h with
    | cons r1 rr => exact .cons (r1.flat (f _ (by simp)) G) (flatAll G vs _ (fun d hd => f d (by simp [hd])) rr)
/-- a new list made with what is owned in view -/
theorem dn_view (h : DN C e (r.map view) ds) (f : ∀ d ∈ ds, flatD d = true) : DN C e r ds := by
  obtain ⟨t, p, ev⟩ := h
  refine ⟨t, p, fun σ G H Q e s q => ev σ H H _ (Same.refl _) (s.view e) fun o xs G' H' ho x1 hg hh ra => ?_⟩
  refine q o xs G H' ho ⟨Same.refl _, x1.h, e.trans x1.h, fun _ _ _ h => h⟩ (e.free ho) hh ?_
  exact flatAll G xs ds f ra
end
end DL

/-! DL, part O: instances of an own class, their attributes. -/
namespace DL
open PySem PySem.Spec L2
open PyProof.Rows hiding St
inductive FV where
  | d (x : PyData)
  | l (m : Addr) (ds : List PyData)
def FV.fp : FV → List Addr
  | .d _ => []
  | .l m _ => [m]
def FvOk (T : Tx) (G H : Hp) (v : V) : FV → Prop
  | .d x => Rp T G v x
  | .l m ds => v = .ref m ∧ ∃ xs, H m = some (.lst xs) ∧ RpAll T G xs ds
inductive FsOk (T : Tx) (G H : Hp) : List (Str × V) → List (Str × FV) → Prop
  | nil : FsOk T G H [] []
  | cons {f : Str} {v : V} {x : FV} {vs : List (Str × V)} {xs : List (Str × FV)} : FvOk T G H v x → FsOk T G H vs xs → FsOk T G H ((f, v) :: vs) ((f, x) :: xs)
def fsFp (fs : List (Str × FV)) : List Addr := fs.flatMap fun p => p.2.fp
def putV (f : Str) (x : FV) : List (Str × FV) → List (Str × FV)
  | [] => [(f, x)]
  | (g, y) :: r => if g = f then (g, x) :: r else (g, y) :: putV f x r
section
variable {T : Tx} {G H G' H' : Hp} {vs : List (Str × V)} {fs : List (Str × FV)} {f : Str} {x : FV} {v : V}
theorem FvOk.loc (h : FvOk T G H v x) (s : Same G G') (k : ∀ a ∈ x.fp, H' a = H a) : FvOk T G' H' v x := by
  cases x with
  | d x => exact Rp.mono s h
  | l m ds =>
    obtain ⟨e, xs, h1, h2⟩ := h
    exact ⟨e, xs, by rw [k m (by simp [FV.fp])]; exact h1, h2.mono s⟩
theorem FsOk.loc (h : FsOk T G H vs fs) (s : Same G G') (k : ∀ a ∈ fsFp fs, H' a = H a) : FsOk T G' H' vs fs := by
  induction h with
  | nil => exact .nil
  | cons h1 _ ih => exact .cons (h1.loc s fun a ha => k a (by simp [fsFp, ha])) (ih fun a ha => k a (by simp only [fsFp, List.flatMap_cons, List.mem_append]; exact .inr ha))
theorem FsOk.look (h : FsOk T G H vs fs) (e : fs.lookup f = some x) : ∃ v, vs.lookup f = some v ∧ FvOk T G H v x := by
  induction h with
  | nil => cases e
  | @cons g v y vs ys h1 _ ih =>
    by_cases hg : (f == g) = true
    · simp only [List.lookup, hg] at e ⊢
      cases e
      exact ⟨v, rfl, h1⟩
    · have hg' : (f == g) = false := by simpa using hg
      simp only [List.lookup, hg'] at e ⊢
      exact ih e
theorem FsOk.none (h : FsOk T G H vs fs) (e : fs.lookup f = Option.none) : vs.lookup f = Option.none := by
  induction h with
  | nil => rfl
  | @cons g v y vs ys h1 _ ih =>
    by_cases hg : (f == g) = true
    · simp only [List.lookup, hg] at e; cases e
    · have hg' : (f == g) = false := by simpa using hg
      simp only [List.lookup, hg'] at e ⊢
      exact ih e
theorem FsOk.put (h : FsOk T G H vs fs) (hv : FvOk T G H v x) : FsOk T G H (putF f v vs) (putV f x fs) := by
  induction h with
  | nil => exact .cons hv .nil
  | @cons g w y vs ys h1 h2 ih =>
    rw [show putF f v ((g, w) :: vs) = (if g = f then (g, v) :: vs else (g, w) :: putF f v vs) from rfl, show putV f x ((g, y) :: ys) = (if g = f then (g, x) :: ys else (g, y) :: putV f x ys) from rfl]
    by_cases hg : g = f
    · rw [if_pos hg, if_pos hg]; exact .cons hv h2
    · rw [if_neg hg, if_neg hg]; exact .cons h1 ih
theorem FsOk.length (h : FsOk T G H vs fs) : vs.length = fs.length := by
  induction h with
  | nil => rfl
  | cons _ _ ih => rw [List.length_cons, List.length_cons, ih]
theorem fp_list (h : FsOk T G H vs fs) {m : Addr} (hm : m ∈ fsFp fs) : ∃ xs, H m = some (.lst xs) := by
  induction h with
  | nil => simp [fsFp] at hm
  | @cons g w y vs ys h1 h2 ih =>
    simp only [fsFp, List.flatMap_cons, List.mem_append] at hm
    rcases hm with hm | hm
    · cases y with
      | d _ => simp [FV.fp] at hm
      | l m' ds =>
        simp only [FV.fp, List.mem_singleton] at hm
        subst hm
        obtain ⟨_, xs, e, _⟩ := h1
        exact ⟨xs, e⟩
    · exact ih hm
end
/-- an instance of the class at C, its attributes fs -/
def insP (T : Tx) (C a dx : Addr) (fs : List (Str × FV)) : ObP where
  fp := a :: dx :: fsFp fs
  φ := fun G H v => v = .ref a ∧ H dx = some (.own a) ∧ dx ≠ a ∧ ∃ vs, H a = some (.ins C dx vs) ∧ FsOk T G H vs fs
  loc := fun {G H G' H' v} h s k => by
    obtain ⟨e, h1, h2, vs, h3, h4⟩ := h
    exact ⟨e, by rw [k dx (by simp)]; exact h1, h2, vs, by rw [k a (by simp)]; exact h3, h4.loc s fun b hb => k b (by simp [hb])⟩
/-- what the class must have -/
structure ClsD (T : Tx) (C : Addr) (ns : List Str) : Prop where
  cls : Cls T.K C
  na : ∀ f ∈ ns, NoAttr T.K C f
section
variable {T : Tx} {C : CS T} {r r1 : Sls} {R : PyData → Prop} {b c e tg : Expr} {pos p p2 pos' tpos np : Pos} {d d' : PyData} {ds ds' : List PyData} {Cc a dx m : Addr} {fs : List (Str × FV)} {f x : Str} {ns : List Str}
variable {G0 H0 G H G' H' : Hp} {σ : L2.St}
theorem view_at {i : Nat} {P : ObP} (h : r[i]? = some (.obj P)) : (r.map view)[i]? = some P.asG := by
  rw [List.getElem?_map, h]; rfl
theorem de_fld (i : Nat) {y : PyData} (K : ClsD T Cc ns) (hr : r[i]? = some (.obj (insP T Cc a dx fs)) ∨ r[i]? = some (insP T Cc a dx fs).asG) (hf : fs.lookup f = some (.d y)) (hn : f ∈ ns := by decide) (hN : C.N[i]? = some x := by rfl) (hv : visB C.tab x = true := by rfl)
    (hd : (x == ("__debug__" : Str)) = false := by decide) (hcd : (x == ("__classdict__" : Str)) = false := by decide) (hb : ∀ env : Env, attributeBase (.Name x np) f env (eval (.Name x np) env) = eval (.Name x np) env := by intro _; rfl) :
    DE C (.Attribute (.Name x np) f pos) r y := by
  refine ⟨tFld T.K (tVar i) f, fun X hX => ?_, fun σ G H Q e s q => ?_⟩
  · have c := C.ok X hX
    have h1 : PE X (.Name x np) (tVar i) := pe_var (by rw [c.eN]; exact hN) (vis_of (by rw [c.etab]; exact hv)) hd hcd
    have h2 := pe_fld (f := f) (pos := pos) h1 (hb X.env)
    rw [c.eK] at h2
    exact h2
  · rcases hr with hr | hr
    · obtain ⟨v, e1, ⟨rfl, _, _, vs, h3, h4⟩, _⟩ := s.at_ i _ hr
      obtain ⟨w, h5, h6⟩ := h4.look hf
      exact ⟨_, e1, a, Cc, dx, vs, w, rfl, h3, K.cls, K.na f hn, h5, q w G H (.refl e) h6⟩
    · obtain ⟨v, e1, ⟨rfl, _, _, vs, h3, h4⟩, _⟩ := s.at_ i _ hr
      obtain ⟨w, h5, h6⟩ := h4.look hf
      exact ⟨_, e1, a, Cc, dx, vs, w, rfl, e _ _ h3, K.cls, K.na f hn, h5, q w G H (.refl e) h6⟩
/-- an owned list of it, in view -/
theorem de_fldL (i : Nat) (K : ClsD T Cc ns) (hr : r[i]? = some (insP T Cc a dx fs).asG) (hf : fs.lookup f = some (.l m ds)) (hn : f ∈ ns := by decide) (hN : C.N[i]? = some x := by rfl) (hv : visB C.tab x = true := by rfl)
    (hd : (x == ("__debug__" : Str)) = false := by decide) (hcd : (x == ("__classdict__" : Str)) = false := by decide) (hb : ∀ env : Env, attributeBase (.Name x np) f env (eval (.Name x np) env) = eval (.Name x np) env := by intro _; rfl) :
    DE C (.Attribute (.Name x np) f pos) r (.list ds) := by
  refine ⟨tFld T.K (tVar i) f, fun X hX => ?_, fun σ G H Q e s q => ?_⟩
  · have c := C.ok X hX
    have h1 : PE X (.Name x np) (tVar i) := pe_var (by rw [c.eN]; exact hN) (vis_of (by rw [c.etab]; exact hv)) hd hcd
    have h2 := pe_fld (f := f) (pos := pos) h1 (hb X.env)
    rw [c.eK] at h2
    exact h2
  · obtain ⟨v, e1, ⟨rfl, _, _, vs, h3, h4⟩, _⟩ := s.at_ i _ hr
    obtain ⟨w, h5, rfl, xs, h7, h8⟩ := h4.look hf
    exact ⟨_, e1, a, Cc, dx, vs, _, rfl, e _ _ h3, K.cls, K.na f hn, h5, q _ G H (.refl e) (.lst h7 h8)⟩
/-- x.f[b], an item of an owned list -/
theorem de_fldAt (i : Nat) {k : Int} (K : ClsD T Cc ns) (hr : r[i]? = some (.obj (insP T Cc a dx fs))) (hf : fs.lookup f = some (.l m ds)) (hb' : DE C b r (.int k)) (hk : L2.atI ds k = some d) (hn : f ∈ ns := by decide) (hN : C.N[i]? = some x := by rfl) (hv : visB C.tab x = true := by rfl)
    (hd : (x == ("__debug__" : Str)) = false := by decide) (hcd : (x == ("__classdict__" : Str)) = false := by decide) (hb : ∀ env : Env, attributeBase (.Name x np) f env (eval (.Name x np) env) = eval (.Name x np) env := by intro _; rfl) (hs : PlainIx b := by intro _ _; rfl) :
    DE C (.Subscript (.Attribute (.Name x np) f pos) b pos') r d := by
  obtain ⟨tb, pb, eb⟩ := hb'
  refine ⟨tOp (rIxL T.K) (tFld T.K (tVar i) f) tb, fun X hX => ?_, fun σ G H Q e s q => ?_⟩
  · have c := C.ok X hX
    have h1 : PE X (.Name x np) (tVar i) := pe_var (by rw [c.eN]; exact hN) (vis_of (by rw [c.etab]; exact hv)) hd hcd
    have h2 := pe_ix (pos := pos') ix_list (pe_fld (f := f) (pos := pos) h1 (hb X.env)) (pb X hX) hs
    rw [c.eK] at h2
    exact h2
  · obtain ⟨v, e1, ⟨rfl, _, _, vs, h3, h4⟩, _⟩ := s.at_ i _ hr
    obtain ⟨w, h5, rfl, xs, h7, h8⟩ := h4.look hf
    refine ⟨_, e1, a, Cc, dx, vs, _, rfl, h3, K.cls, K.na f hn, h5, ?_⟩
    refine eb σ G H _ e s fun y G1 H1 x1 r1 => ?_
    obtain ⟨v', hv', rv'⟩ := (h8.mono x1.g).atI hk
    exact ⟨m, xs, k, v', rfl, r1.int_inv, SqL.of (x1.h _ _ h7), hv', q v' G1 H1 x1 rv'⟩
/-! ### stores into it -/
theorem fp_none {fs : List (Str × FV)} {y : FV} (h : fs.lookup f = some y) {z : Addr} (hz : z ∈ y.fp) : z ∈ fsFp fs := by
  induction fs with
  | nil => cases h
  | cons p ps ih =>
    obtain ⟨g, w⟩ := p
    simp only [fsFp, List.flatMap_cons, List.mem_append]
    by_cases hg : (f == g) = true
    · simp only [List.lookup, hg] at h
      cases h
      exact .inl hz
    · have hg' : (f == g) = false := by simpa using hg
      simp only [List.lookup, hg'] at h
      exact .inr (ih h)
theorem fp_put {fs : List (Str × FV)} {y : FV} {z : Addr} (h : z ∈ fsFp (putV f y fs)) : z ∈ y.fp ∨ z ∈ fsFp fs := by
  induction fs with
  | nil =>
    simp only [putV, fsFp, List.flatMap_cons, List.flatMap_nil, List.append_nil] at h
    exact .inl h
  | cons p ps ih =>
    obtain ⟨g, w⟩ := p
    rw [show putV f y ((g, w) :: ps) = (if g = f then (g, y) :: ps else (g, w) :: putV f y ps) from rfl] at h
    by_cases hg : g = f
    · rw [if_pos hg] at h
      simp only [fsFp, List.flatMap_cons, List.mem_append] at h ⊢
      rcases h with h | h
      · exact .inl h
      · exact .inr (.inr h)
    · rw [if_neg hg] at h
      simp only [fsFp, List.flatMap_cons, List.mem_append] at h ⊢
      rcases h with h | h
      · exact .inr (.inl h)
      · rcases ih h with h | h
        · exact .inl h
        · exact .inr (.inr h)
theorem FsOk.setL {vs : List (Str × V)} {xs' : List V} (h : FsOk T G H vs fs) (e : fs.lookup f = some (.l m ds)) (u : fsFp fs = [m]) (hl : H' m = some (.lst xs')) (hr : RpAll T G xs' ds') : FsOk T G H' vs (putV f (.l m ds') fs) := by
  induction h with
  | nil => cases e
  | @cons g w y vs ys h1 h2 ih =>
    rw [show putV f (.l m ds') ((g, y) :: ys) = (if g = f then (g, .l m ds') :: ys else (g, y) :: putV f (.l m ds') ys) from rfl]
    have u' : y.fp ++ fsFp ys = [m] := by simpa [fsFp] using u
    by_cases hg : g = f
    · subst hg
      have hg' : (g == g) = true := by simp
      simp only [List.lookup, hg'] at e
      cases e
      rw [if_pos rfl]
      have u2 : fsFp ys = [] := by simpa [FV.fp] using u'
      exact .cons ⟨h1.1, xs', hl, hr⟩ (h2.loc (Same.refl _) fun z hz => by rw [u2] at hz; simp at hz)
    · have hg' : (f == g) = false := by simpa using fun z => hg z.symm
      simp only [List.lookup, hg'] at e
      rw [if_neg hg]
      have hm := fp_none e (z := m) (by simp [FV.fp])
      cases y with
      | d y => exact .cons h1 (ih e (by simpa [FV.fp] using u'))
      | l m' ds2 =>
        have : fsFp ys = [] := by
          simp only [FV.fp, List.singleton_append, List.cons.injEq] at u'
          exact u'.2
        rw [this] at hm
        simp at hm
theorem ins_slot {vs : List (Str × V)} (h1 : H dx = some (.own a)) (h2 : dx ≠ a) (h3 : H a = some (.ins Cc dx vs)) (h4 : FsOk T G H vs fs) (hG : ∀ z ∈ (insP T Cc a dx fs).fp, G z = none) : SlotOk T G H (some (some (.ref a))) (.obj (insP T Cc a dx fs)) := by
  refine ⟨_, rfl, ⟨rfl, h1, h2, vs, h3, h4⟩, fun z hz => ⟨hG z hz, ?_⟩⟩
  rcases List.mem_cons.mp hz with rfl | hz
  · rw [h3]; simp
  · rcases List.mem_cons.mp hz with rfl | hz
    · rw [h1]; simp
    · obtain ⟨xs, e⟩ := fp_list h4 hz
      rw [e]; simp
theorem Bs.insPut {i : Nat} {fs' : List (Str × FV)} (h : Bs T G0 H0 r σ G H) (hr : r[i]? = some (.obj (insP T Cc a dx fs))) (hH : ∀ z, z ∉ (insP T Cc a dx fs).fp → H' z = H z) (hf : ∀ z ∈ fsFp fs', z ∈ fsFp fs) (hs : SlotOk T G H' (some (some (.ref a))) (.obj (insP T Cc a dx fs'))) :
    Bs T G0 H0 (r.set i (.obj (insP T Cc a dx fs'))) σ G H' := by
  obtain ⟨v, e1, ⟨rfl, _⟩, e3⟩ := h.sl.at_ i _ hr
  have ow : ∀ z ∈ (insP T Cc a dx fs).fp, OwnAt r σ i z := fun z hz => .inr ⟨_, hr, hz⟩
  refine h.put rfl (fun _ _ => rfl) ⟨h.ext.g, fun z u q => ?_, fun z u q => ?_, h.ext.sep⟩ (Same.refl _) (fun j z hj hz => ⟨hH z fun w => hj ((h.own i z (ow z w)).2 j hz), (h.sl.there hz).1⟩) (fun _ => by rw [e1]; exact hs) fun z hz => ?_
  · rw [hH z fun w => by rw [(h.own i z (ow z w)).1] at q; cases q]
    exact h.ext.h z u q
  · rw [hH z fun w => by rw [(e3 z w).1] at q; cases q]
    exact h.ext.gh z u q
  · rcases hz with ⟨_, ⟨_, e⟩ | ⟨_, e⟩⟩ | ⟨P, e, hz⟩ <;> cases e
    have hz' : z ∈ (insP T Cc a dx fs).fp := by
      rcases List.mem_cons.mp hz with rfl | hz
      · exact List.mem_cons_self
      · rcases List.mem_cons.mp hz with rfl | hz
        · exact List.mem_cons_of_mem _ List.mem_cons_self
        · exact List.mem_cons_of_mem _ (List.mem_cons_of_mem _ (hf z hz))
    obtain ⟨q1, q2⟩ := h.own i z (ow z hz')
    exact ⟨q1, fun k hk hk' => hk (q2 k hk')⟩
/-- an attribute's datum changed -/
theorem Bs.insSet {i : Nat} {vs : List (Str × V)} {v : V} {y : PyData} (h : Bs T G0 H0 r σ G H) (hr : r[i]? = some (.obj (insP T Cc a dx fs))) (h3 : H a = some (.ins Cc dx vs)) (h4 : FsOk T G H vs fs) (hv : Rp T G v y) :
    Bs T G0 H0 (r.set i (.obj (insP T Cc a dx (putV f (.d y) fs)))) σ G (upd H a (.ins Cc dx (putF f v vs))) := by
  obtain ⟨_, e1, ⟨rfl, h1, h2, _⟩, e3⟩ := h.sl.at_ i _ hr
  refine h.insPut hr (fun z hz => upd_ne fun w => hz (by subst w; exact List.mem_cons_self)) (fun z hz => (fp_put hz).elim (fun w => by simp [FV.fp] at w) id) (ins_slot (by rw [upd_ne h2]; exact h1) h2 upd_same ((h4.put (x := .d y) hv).loc (Same.refl _) fun z hz => ?_) fun z hz => ?_)
  · have hz' : z ∈ fsFp fs := (fp_put hz).elim (fun w => by simp [FV.fp] at w) id
    obtain ⟨xs, q⟩ := fp_list h4 hz'
    exact upd_ne fun w => by subst w; rw [h3] at q; cases q
  · refine (e3 z ?_).1
    rcases List.mem_cons.mp hz with rfl | hz
    · exact List.mem_cons_self
    · rcases List.mem_cons.mp hz with rfl | hz
      · exact List.mem_cons_of_mem _ List.mem_cons_self
      · exact List.mem_cons_of_mem _ (List.mem_cons_of_mem _ ((fp_put hz).elim (fun w => by simp [FV.fp] at w) id))
/-- x.f -= e -/
theorem ds_augF (i : Nat) {k n : Int} (K : ClsD T Cc ns) (hr : r[i]? = some (.obj (insP T Cc a dx fs))) (hf : fs.lookup f = some (.d (.int k))) (he : DE C e r (.int n)) (hl : fs.length < 900) (hn : f ∈ ns := by decide) (hN : C.N[i]? = some x := by rfl) (hv : visB C.tab x = true := by rfl)
    (hd : (x == ("__debug__" : Str)) = false := by decide) (hcd : (x == ("__classdict__" : Str)) = false := by decide) :
    DS C (.AugAssign (.Attribute (.Name x np) f tpos) .Sub e pos) r R (r.set i (.obj (insP T Cc a dx (putV f (.d (.int (k - n))) fs)))) := by
  obtain ⟨t, pt, et⟩ := he
  refine ⟨sFldAug T.K (tVar i) t rSub f, fun X hX => ?_, fun G0 H0 σ G H D h q _ => ?_⟩
  · have c := C.ok X hX
    have h1 : PE X (.Name x np) (tVar i) := pe_var (by rw [c.eN]; exact hN) (vis_of (by rw [c.etab]; exact hv)) hd hcd
    have h2 := ps_fldaug (f := f) (pos := pos) (tpos := tpos) h1 (pt X hX) in_sub
    rw [c.eK] at h2
    exact h2
  · obtain ⟨v, e1, ⟨rfl, _, _, vs, h3, h4⟩, _⟩ := h.sl.at_ i _ hr
    obtain ⟨w, h5, h6⟩ := h4.look hf
    refine ⟨_, e1, a, Cc, dx, vs, w, rfl, h3, K.cls, K.na f hn, h5, et σ G H _ h.ext.gh h.sl fun y G1 H1 x1 r1 => ⟨k, n, Rp.int_inv h6, r1.int_inv, ?_⟩⟩
    have h' := h.mono x1
    obtain ⟨_, _, ⟨_, _, _, vs', h3', h4'⟩, _⟩ := h'.sl.at_ i _ hr
    have ev : vs' = vs := by
      have := x1.h _ _ h3
      rw [this] at h3'
      cases h3'
      rfl
    subst ev
    exact ⟨dx, vs', h3', by rw [h4'.length]; omega, q _ _ _ (h'.insSet hr h3' h4' (.int _))⟩
/-- x.f[e1] = e2 -/
theorem ds_setAtF (i : Nat) {k : Int} {pos3 : Pos} (K : ClsD T Cc ns) (hr : r[i]? = some (.obj (insP T Cc a dx fs))) (hf : fs.lookup f = some (.l m ds)) (hu : fsFp fs = [m]) (he : DE C e r d) (hb : DE C b r (.int k)) (h0 : 0 ≤ k) (hk : k.toNat < ds.length) (hn : f ∈ ns := by decide) (hN : C.N[i]? = some x := by rfl) (hv : visB C.tab x = true := by rfl)
    (hd : (x == ("__debug__" : Str)) = false := by decide) (hcd : (x == ("__classdict__" : Str)) = false := by decide) (hba : ∀ env : Env, attributeBase (.Name x np) f env (eval (.Name x np) env) = eval (.Name x np) env := by intro _; rfl)
    (hs : ∀ env : Env, swapsWithSole [.Subscript (.Attribute (.Name x np) f pos3) b tpos] e pos.line env = pure false := by intro _; rfl) (hw : ∀ env : Env, swappedStores [.Subscript (.Attribute (.Name x np) f pos3) b tpos] e env = pure none := by intro _; rfl)
    (hst : ∀ (env : Env) v, assign (.Subscript (.Attribute (.Name x np) f pos3) b tpos) env v = (do
      let ov ← holding [v] (eval (.Attribute (.Name x np) f pos3) env)
      let iv ← holding [v, ov] (eval b env)
      standAt tpos
      holding [v, ov, iv] (setItem ov iv v)
      release [v, ov, iv] []) := by intro _ _; rfl)
    (h1 : ∀ env : Env, (assignEach [.Subscript (.Attribute (.Name x np) f pos3) b tpos] env).map (·.2) = [assign (.Subscript (.Attribute (.Name x np) f pos3) b tpos) env] := by intro _; rfl) :
    DS C (.Assign [.Subscript (.Attribute (.Name x np) f pos3) b tpos] e pos) r R (r.set i (.obj (insP T Cc a dx (putV f (.l m (ds.set k.toNat d)) fs)))) := by
  obtain ⟨t, pt, et⟩ := he
  obtain ⟨tb, pb, eb⟩ := hb
  refine ⟨tAsg t (gSub (tFld T.K (tVar i) f) tb rSetL), fun X hX => ?_, fun G0 H0 σ G H D h q _ => ?_⟩
  · have c := C.ok X hX
    have hv1 : PE X (.Name x np) (tVar i) := pe_var (by rw [c.eN]; exact hN) (vis_of (by rw [c.etab]; exact hv)) hd hcd
    have h2 := pe_fld (f := f) (pos := pos3) hv1 (hba X.env)
    rw [c.eK] at h2
    exact ps_asg (pt X hX) (pg_sub h2 (pb X hX) set_list (hst X.env)) (hs X.env) (hw X.env) (h1 X.env)
  · refine et σ G H _ h.ext.gh h.sl fun v G1 H1 x1 r1 => ?_
    have hB1 := h.mono x1
    obtain ⟨_, e1, ⟨rfl, _, _, vs, h3, h4⟩, _⟩ := hB1.sl.at_ i _ hr
    obtain ⟨w, h5, rfl, xs, h7, h8⟩ := h4.look hf
    refine ⟨_, e1, a, Cc, dx, vs, _, rfl, h3, K.cls, K.na f hn, h5, ?_⟩
    refine eb σ G1 H1 _ x1.gh hB1.sl fun y G2 H2 x2 r2 => ?_
    have hB2 := hB1.mono x2
    have h7' := x2.h _ _ h7
    refine ⟨m, xs, k, k.toNat, rfl, r2.int_inv, h7', ixN_of h0 (by rw [h8.length]; exact hk), ?_⟩
    obtain ⟨_, e1', ⟨_, ho, hne, vs', h3', h4'⟩, e3⟩ := hB2.sl.at_ i _ hr
    have hm : m ∈ fsFp fs := by rw [hu]; simp
    have fpq : fsFp (putV f (.l m (ds.set k.toNat d)) fs) ⊆ fsFp fs := fun z hz => (fp_put hz).elim (fun w => by
      simp only [FV.fp, List.mem_singleton] at w
      subst w; exact hm) id
    have ma : m ≠ a := fun z => by subst z; rw [h3'] at h7'; cases h7'
    have md : m ≠ dx := fun z => by subst z; rw [ho] at h7'; cases h7'
    refine q σ G2 _ (hB2.insPut hr (fun z hz => upd_ne fun w => hz (by subst w; exact List.mem_cons_of_mem _ (List.mem_cons_of_mem _ hm))) fpq (ins_slot (by rw [upd_ne md.symm]; exact ho) hne (by rw [upd_ne ma.symm]; exact h3') (h4'.setL hf hu upd_same (RpAll.set (r1.mono x2.g) k.toNat (h8.mono x2.g))) fun z hz => ?_))
    refine (e3 z ?_).1
    rcases List.mem_cons.mp hz with rfl | hz
    · exact List.mem_cons_self
    · rcases List.mem_cons.mp hz with rfl | hz
      · exact List.mem_cons_of_mem _ List.mem_cons_self
      · exact List.mem_cons_of_mem _ (List.mem_cons_of_mem _ (fpq hz))
end
end DL

/-! DL, part U: methods of an own class. -/
namespace DL
open PySem PySem.Spec L2
open PyProof.Rows hiding St
section
variable {T : Tx} {C : CS T} {r r1 : Sls} {R : PyData → Prop} {b c e e2 tg : Expr} {es : List Expr} {pos p p2 pos' tpos np : Pos} {d d' : PyData} {ds ds' : List PyData} {Cc a dx m : Addr} {fs fs' : List (Str × FV)} {f g x : Str} {ns : List Str}
variable {G0 H0 G H G' H' : Hp} {σ : L2.St}
/-! ### self.f, self.g = e -/
def gFld (K : PySem.W.Frag) (ta : TE) (f : Str) : TG := fun v σ H Q => ta σ H fun x H1 => ∃ a C dx fs, x = .ref a ∧ H1 a = some (.ins C dx fs) ∧ Cls K C ∧ NoAttr K C f ∧ fs.length < 1000 ∧ Q σ (upd H1 a (.ins C dx (putF f v fs)))
theorem pg_fld {X : Cx} {o : Expr} {ta : TE} (ha : PE X o ta) : PG X (.Attribute o f pos) (gFld X.K ta f) := by
  refine ⟨fun pins s σ H v u Q I r h => ?_⟩
  rw [assign_Attribute]
  refine wpAny_bind (wpAny_holding (thn (ha.run pins s σ H _ I h) fun ov s1 ⟨x, H1, I1, rx, a, C, dx, fs, ex, ea, c, n, l, q⟩ => ?_))
  subst ex
  obtain rfl : ov = Value.ref a := rx
  exact wpAny_bind (wpAny_standAt (wpAny_bind (wpAny_holding (setattr_ok I1 ea c n l r fun s3 I3 => wpAny_release ⟨σ, _, I3, q⟩))))
theorem ds_par2F (i : Nat) {y z : PyData} {k : Nat} {pf pg np2 : Pos} (K : ClsD T Cc ns) (hr : r[i]? = some (.obj (insP T Cc a dx fs))) (he : DE C e r (.tuple [y, z])) (hl : fs.length < 900) (hn : f ∈ ns := by decide) (hn2 : g ∈ ns := by decide) (hN : C.N[i]? = some x := by rfl) (hv : visB C.tab x = true := by rfl)
    (hd : (x == ("__debug__" : Str)) = false := by decide) (hcd : (x == ("__classdict__" : Str)) = false := by decide)
    (hs : ∀ env : Env, swapsWithSole [.Tuple [.Attribute (.Name x np) f pf, .Attribute (.Name x np2) g pg] k tpos] e pos.line env = pure false := by intro _; rfl)
    (hw : ∀ env : Env, swappedStores [.Tuple [.Attribute (.Name x np) f pf, .Attribute (.Name x np2) g pg] k tpos] e env = pure none) :
    DS C (.Assign [.Tuple [.Attribute (.Name x np) f pf, .Attribute (.Name x np2) g pg] k tpos] e pos) r R (r.set i (.obj (insP T Cc a dx (putV g (.d z) (putV f (.d y) fs))))) := by
  obtain ⟨t, pt, et⟩ := he
  refine ⟨tAsg t (gTup T.K 2 (gCons (gFld T.K (tVar i) f) (gCons (gFld T.K (tVar i) g) gNil))), fun X hX => ?_, fun G0 H0 σ G H D h q _ => ?_⟩
  · have c := C.ok X hX
    have hv1 : PE X (.Name x np) (tVar i) := pe_var (by rw [c.eN]; exact hN) (vis_of (by rw [c.etab]; exact hv)) hd hcd
    have g1 := pg_fld (f := f) (pos := pf) hv1
    have hv2 : PE X (.Name x np2) (tVar i) := pe_var (by rw [c.eN]; exact hN) (vis_of (by rw [c.etab]; exact hv)) hd hcd
    have g2 := pg_fld (f := g) (pos := pg) hv2
    have g3 := pg_tup (k := k) (pos := tpos) (n := 2) c.calm (pgs_cons g1 (pgs_cons g2 pgs_nil))
    rw [c.eK] at g3
    exact ps_asg (pt X hX) g3 (hs X.env) (hw X.env)
  · refine et σ G H _ h.ext.gh h.sl fun v G1 H1 x1 r1 => ?_
    have hB := h.mono x1
    obtain ⟨o, xs, rfl, hq, hxs⟩ := r1.tup_inv
    obtain ⟨v1, v2, rfl, q1, q2⟩ := hxs.two_inv
    refine ⟨o, _, rfl, same_t x1.gh hq, rfl, v1, [v2], rfl, ?_⟩
    obtain ⟨_, e1, ⟨rfl, _, _, vs, h3, h4⟩, _⟩ := hB.sl.at_ i _ hr
    refine ⟨_, e1, a, Cc, dx, vs, rfl, h3, K.cls, K.na f hn, by rw [h4.length]; omega, v2, [], rfl, ?_⟩
    have hB2 := hB.insSet (f := f) hr h3 h4 q1
    have hi : i < r.length := (List.getElem?_eq_some_iff.mp hr).1
    have hr2 : (r.set i (.obj (insP T Cc a dx (putV f (.d y) fs))))[i]? = some (.obj (insP T Cc a dx (putV f (.d y) fs))) := List.getElem?_set_self hi
    obtain ⟨_, e1', ⟨rfl, _, _, vs', h3', h4'⟩, _⟩ := hB2.sl.at_ i _ hr2
    have ev : vs' = putF f v1 vs := by
      rw [upd_same] at h3'
      cases h3'
      rfl
    have hl' : vs'.length < 1000 := by
      rw [ev]
      have := length_putF f v1 vs
      have := h4.length
      omega
    refine ⟨_, e1', a, Cc, dx, vs', rfl, h3', K.cls, K.na g hn2, hl', rfl, ?_⟩
    have hB3 := hB2.insSet (f := g) hr2 h3' h4' q2
    rw [List.set_set] at hB3
    exact q σ _ _ hB3
/-! ### a method that changes its instance, called as a statement -/
def offA (L : List Addr) (H : Hp) : Hp := fun b => if b ∈ L then none else H b
abbrev MSpec := List PyData → List (Str × FV) → List (Str × FV) → Prop
def spM (T : Tx) (Cc : Addr) (S : MSpec) : Sp := fun vs H Q _ => ∃ G a dx fs fs' ws ds, vs = .ref a :: ws ∧ S ds fs fs' ∧ (∀ z ∈ fsFp fs', z ∈ fsFp fs) ∧ Same G H ∧ SlotOk T G H (some (some (.ref a))) (.obj (insP T Cc a dx fs)) ∧ RpAll T G ws ds ∧
  ∀ G' H', Ext G (offA (insP T Cc a dx fs).fp H) G' H' → SlotOk T G' H' (some (some (.ref a))) (.obj (insP T Cc a dx fs')) → Q .non H'
structure MFn (T : Tx) (Cc : Addr) (k : Nat) (m : Str) (S : MSpec) : Prop where
  ex : ∃ f fd ps, FnOk T.P T.w T.K T.mg T.base CX0 k f fd ps (spM T Cc S) ∧ Meth T.K Cc m f ∧ Binds T.K fd ps []
theorem off_in {L : List Addr} {z : Addr} (h : z ∈ L) : offA L H z = none := by unfold offA; rw [if_pos h]
theorem off_out {L : List Addr} {z : Addr} (h : z ∉ L) : offA L H z = H z := by unfold offA; rw [if_neg h]
/-- behind a call that changed what a slot owns -/
theorem Bs.called {i : Nat} {s : SV} {L : List Addr} (h : Bs T G0 H0 r σ G H) (hL : ∀ z, z ∈ L ↔ OwnAt r σ i z) (x : Ext G (offA L H) G' H') (hs : SlotOk T G' H' σ[i]? s) (hn : ∀ z, OwnV σ[i]? (some s) z → z ∈ L) : Bs T G0 H0 (r.set i s) σ G' H' := by
  have x' : Ext G0 H0 G' H' := by
    refine ⟨h.ext.g.trans x.g, fun z u q => ?_, x.gh, fun z u q1 q2 => ?_⟩
    · refine x.h z u ?_
      rw [off_out fun w => by rw [(h.own i z ((hL z).mp w)).1] at q; cases q]
      exact h.ext.h z u q
    · refine x.sep z u ?_ (h.ext.sep z u q1 q2)
      rw [off_out fun w => by rw [(h.own i z ((hL z).mp w)).1] at q1; cases q1]
      exact h.ext.h z u q1
  refine h.put rfl (fun _ _ => rfl) x' x.g (fun j z hj hz => ?_) (fun _ => hs) fun z hz => ?_
  · have hzL : z ∉ L := fun w => hj ((h.own i z ((hL z).mp w)).2 j hz)
    obtain ⟨q1, q2⟩ := h.sl.there hz
    cases q : H z with
    | none => exact absurd q q2
    | some u => exact ⟨x.h z u (by rw [off_out hzL]; exact q), x.sep z u (by rw [off_out hzL]; exact q) q1⟩
  · obtain ⟨q1, q2⟩ := h.own i z ((hL z).mp (hn z hz))
    exact ⟨q1, fun k hk hk' => hk (q2 k hk')⟩
theorem own_ins {i : Nat} (h : r[i]? = some (.obj (insP T Cc a dx fs))) {z : Addr} : z ∈ (insP T Cc a dx fs).fp ↔ OwnAt r σ i z := by
  refine ⟨fun w => .inr ⟨_, h, w⟩, fun w => ?_⟩
  unfold OwnAt at w
  rw [h] at w
  rcases w with ⟨_, ⟨_, e⟩ | ⟨_, e⟩⟩ | ⟨P, e, hz⟩ <;> cases e
  exact hz
theorem own_insV {o : Option (Option V)} {z : Addr} (w : OwnV o (some (.obj (insP T Cc a dx fs))) z) : z ∈ (insP T Cc a dx fs).fp := by
  rcases w with ⟨_, ⟨_, e⟩ | ⟨_, e⟩⟩ | ⟨P, e, hz⟩ <;> cases e
  exact hz
theorem fp_sub (h : ∀ z ∈ fsFp fs', z ∈ fsFp fs) {z : Addr} (hz : z ∈ (insP T Cc a dx fs').fp) : z ∈ (insP T Cc a dx fs).fp := by
  rcases List.mem_cons.mp hz with rfl | hz
  · exact List.mem_cons_self
  · rcases List.mem_cons.mp hz with rfl | hz
    · exact List.mem_cons_of_mem _ List.mem_cons_self
    · exact List.mem_cons_of_mem _ (List.mem_cons_of_mem _ (h z hz))
/-- x.m(e, ..) as a statement -/
theorem ds_meth (i : Nat) {k : Nat} {S : MSpec} {pl : Env → Sem Bool} {apos cpos : Pos} (K : ClsD T Cc ns) (F : MFn T Cc k m' S) (hr : r[i]? = some (.obj (insP T Cc a dx fs))) (ha : DAs C (e :: es) r ds) (hS : S ds fs fs') (hfp : ∀ z ∈ fsFp fs', z ∈ fsFp fs) (hm : fs.lookup m' = none) (hk : k ≤ C.k := by first | decide | (dsimp only [CS.blk]; decide)) (hN : C.N[i]? = some x := by rfl) (hv : visB C.tab x = true := by rfl)
    (hd : (x == ("__debug__" : Str)) = false := by decide) (hcd : (x == ("__classdict__" : Str)) = false := by decide)
    (hst : ∀ env : Env, starEach (e :: es) env = (false, eval e env) :: starEach es env := by intro _; rfl) (hpl : ∀ env : Env, (backTo cpos (starEach es env)).any (·.1) = false := by intro _; rfl)
    (ht : ∀ env : Env, eval (.Call (.Attribute (.Name x np) m' apos) (e :: es) [] cpos) env = (do
      let ov ← eval (.Name x np) env
      standAt apos.atName
      let (f, first) ← holding [ov] (getMethod ov m' (pl env))
      callWith cpos f first (backTo cpos (starEach (e :: es) env)) (backToKw cpos (keywordEach [] env))) := by intro _; rfl)
    (hsw : ∀ env : Env, swapsWith (.Call (.Attribute (.Name x np) m' apos) (e :: es) [] cpos) none pos.line env = pure false := by intro _; rfl) :
    DS C (.Expr (.Call (.Attribute (.Name x np) m' apos) (e :: es) [] cpos) pos) r R (r.set i (.obj (insP T Cc a dx fs'))) := by
  obtain ⟨f, fd, ps, F, hM, hb⟩ := F.ex
  obtain ⟨ta, pa, ea⟩ := ha
  refine ⟨tDrop (tMeth Cc m' (spM T Cc S) [] E0 (tVar i) ta), fun X hX => ?_, fun G0 H0 σ G H D h q _ => ?_⟩
  · have c := C.ok X hX
    have hv1 : PE X (.Name x np) (tVar i) := pe_var (by rw [c.eN]; exact hN) (vis_of (by rw [c.etab]; exact hv)) hd hcd
    exact ps_expr (pe_meth hv1 (by rw [c.eK]; exact K.cls) (by rw [c.eK]; exact hM) (fnAt hX F) (c.room.mono hk) (by rw [c.eK]; exact hb) .nil pass0 (pa X hX) (hst X.env) (hpl X.env) (ht X.env)) (hsw X.env)
  · obtain ⟨_, e1, ⟨rfl, _, _, vs, h3, h4⟩, _⟩ := h.sl.at_ i _ hr
    refine ⟨_, e1, a, dx, vs, rfl, h3, h4.none hm, ea σ G H _ h.ext.gh h.sl fun ws G1 H1 x1 r1 => ?_⟩
    have hB := h.mono x1
    have hs := hB.sl.at_ i _ hr
    rw [e1] at hs
    refine ⟨G1, a, dx, fs, fs', ws, ds, by rw [List.append_nil], hS, hfp, x1.gh, hs, r1, fun G' H' x2 hs' => ?_⟩
    exact q σ G' H' (hB.called (fun z => own_ins hr) x2 (by rw [e1]; exact hs') fun z hz => fp_sub hfp (own_insV hz))
/-! ### a method's body -/
structure MethAt (T : Tx) (Cc : Addr) (x qual : Str) (st : Stmt) (ps : List Str) : Prop where
  ex : ∃ f fd, Fun T.K x qual st f fd ∧ Meth T.K Cc x f ∧ Binds T.K fd ps []
theorem sl_startS {G H : Hp} {N : List Str} {v : V} {s : SV} {vs : List V} (hs : SlotOk T G H (some (some v)) s) (h : RpAll T G vs ds) : Sl T (s :: entry (N.length - 1) ds) (L2.start N (v :: vs)) G H := by
  unfold entry L2.start
  refine ⟨by simp [h.length]; omega, fun i s' hs' => ?_⟩
  cases i with
  | zero =>
    simp only [List.getElem?_cons_zero] at hs'
    cases hs'
    exact hs
  | succ i =>
    rw [List.getElem?_cons_succ] at hs'
    rw [List.map_cons, List.cons_append, List.getElem?_cons_succ]
    by_cases hi : i < ds.length
    · rw [List.getElem?_append_left (by rw [List.length_map]; exact hi), List.getElem?_map] at hs'
      obtain ⟨d, hd, rfl⟩ := Option.map_eq_some_iff.mp hs'
      obtain ⟨v, hv, rv⟩ := h.get hd
      refine ⟨v, ?_, rv⟩
      rw [List.getElem?_append_left (by rw [List.length_map, h.length]; exact hi), List.getElem?_map, hv]
      rfl
    · rw [List.getElem?_append_right (by rw [List.length_map]; omega)] at hs'
      have := List.mem_of_getElem? hs'
      rw [List.mem_replicate] at this
      rw [this.2]
      trivial
theorem own_entry {n : Nat} {σ : L2.St} {i : Nat} {z : Addr} : ¬ OwnAt (entry n ds) σ i z := by
  have := own_start (ds := ds) (N := List.replicate n ("" : Str)) (σ := σ) (i := i) (a := z)
  rwa [List.length_replicate] at this
/-- THE RULE for a method that ends without a value -/
theorem mfn_of {x qual : Str} {st : Stmt} {N ps : List Str} {tab : List (Str × NameKind)} {k : Nat} {S : MSpec} (D : MethAt T Cc x qual st ps) (Sc : FnScope N ps (defScope st)) (ht : (defScope st).names = tab) (hlen : ∀ ds fs fs', S ds fs fs' → ds.length + 1 = ps.length)
    (body : ∀ a dx ds fs fs', S ds fs fs' → ∀ (Z : Cx → Prop) (ok : ∀ X, Z X → CxIs T N tab k (fun _ => true) X), ∃ r', r'[0]? = some (.obj (insP T Cc a dx fs')) ∧ DSs (CS.mk Z N tab k (fun _ => true) ok) (defBody st) (.obj (insP T Cc a dx fs) :: entry (N.length - 1) ds) (fun _ => False) r') : MFn T Cc (k + 1) x S := by
  obtain ⟨f, fd, F, hM, hb⟩ := D.ex
  refine ⟨f, fd, ps, F.ok Sc (fun vs H Q E h => ?_) (fun cdv A outer s H vs Q E hr h => ?_), hM, hb⟩
  · obtain ⟨G, a, dx, fs, fs', ws, ds, rfl, hS, _, _, _, hv, _⟩ := h
    rw [List.length_cons, hv.length, hlen ds fs fs' hS]
  · obtain ⟨G, a, dx, fs, fs', ws, ds, rfl, hS, hfp, hG, hs, hv, q⟩ := h
    obtain ⟨r', hr', t, pt, et⟩ := body a dx ds fs fs' hS (fun Y => Y = (cxOf CX0 T.P T.w T.K T.mg T.base N qual (defScope st) f cdv A outer s H E).nox) (fun X e => by
      subst e
      exact ⟨rfl, rfl, rfl, rfl, rfl, Sc.nd, rfl, ht, Sc.kind, rfl, hr, fun _ _ => rfl, rfl⟩)
    have hfpG : ∀ z ∈ (insP T Cc a dx fs).fp, G z = none := fun z hz => by
      obtain ⟨_, _, _, w⟩ := hs
      exact (w z hz).1
    have start : Bs T G (offA (insP T Cc a dx fs).fp H) (.obj (insP T Cc a dx fs) :: entry (N.length - 1) ds) (L2.start N (.ref a :: ws)) G H := by
      refine ⟨⟨Same.refl _, fun z u q => ?_, hG, fun z u _ w => w⟩, sl_startS hs hv, fun i z hz => ?_⟩
      · by_cases hz : z ∈ (insP T Cc a dx fs).fp
        · rw [off_in hz] at q; cases q
        · rw [off_out hz] at q; exact q
      · have key : ∀ i, OwnAt (.obj (insP T Cc a dx fs) :: entry (N.length - 1) ds) (L2.start N (.ref a :: ws)) i z → i = 0 ∧ z ∈ (insP T Cc a dx fs).fp := fun i hi => by
          cases i with
          | zero => exact ⟨rfl, own_insV hi⟩
          | succ i =>
            refine absurd (show OwnAt (entry (N.length - 1) ds) (L2.start N (.ref a :: ws)).tail i z from ?_) own_entry
            unfold OwnAt at hi ⊢
            rw [List.getElem?_cons_succ] at hi
            rw [List.getElem?_tail]
            exact hi
        obtain ⟨rfl, hz'⟩ := key i hz
        exact ⟨off_in hz', fun j hj => (key j hj).1⟩
    refine ⟨t, pt _ rfl, et G _ _ G H _ start (fun σ' G' H' h' => ?_) (fun d' v G' H' e x r => e.elim)⟩
    obtain ⟨v, e1, e2, e3⟩ := h'.sl.at_ 0 _ hr'
    have := e2.1
    subst this
    exact q G' H' h'.ext ⟨_, rfl, e2, e3⟩
end
end DL

/-! DL, part V: methods that only read. -/
namespace DL
open PySem PySem.Spec L2
open PyProof.Rows hiding St
section
variable {T : Tx} {C : CS T} {r r1 : Sls} {R : PyData → Prop} {b c e e2 tg : Expr} {es : List Expr} {pos p p2 pos' tpos np apos cpos : Pos} {d d' : PyData} {ds ds' ys : List PyData} {Cc a dx m : Addr} {fs fs' : List (Str × FV)} {f g x m' : Str} {ns : List Str}
variable {G0 H0 G H G' H' : Hp} {σ : L2.St}
abbrev RSpec := List PyData → List (Str × FV) → PyData → Prop
def spR (T : Tx) (Cc : Addr) (S : RSpec) : Sp := fun vs H Q _ => ∃ a dx fs ws ds d, vs = .ref a :: ws ∧ S ds fs d ∧ SlotOk T H H (some (some (.ref a))) (insP T Cc a dx fs).asG ∧ RpAll T H ws ds ∧
  ∀ z G' H', Ext H H G' H' → Rp T G' z d → Q z H'
structure RFn (T : Tx) (Cc : Addr) (k : Nat) (m : Str) (S : RSpec) : Prop where
  ex : ∃ f fd ps, FnOk T.P T.w T.K T.mg T.base CX0 k f fd ps (spR T Cc S) ∧ Meth T.K Cc m f ∧ Binds T.K fd ps []
theorem asG_mono {o : Option (Option V)} {P : ObP} {G1 H1 : Hp} (s : Same G G1) (h : SlotOk T G H o P.asG) : SlotOk T G1 H1 o P.asG := by
  obtain ⟨v, e, h1, h2⟩ := h
  have k : ∀ z ∈ P.fp, G1 z = G z := fun z hz => by
    cases q : G z with
    | none => exact absurd q (h2 z hz)
    | some u => exact s z u q
  exact ⟨v, e, P.loc h1 s k, fun z hz => by rw [k z hz]; exact h2 z hz⟩
/-- x.m(e, ..), the instance in view, the value plain -/
theorem de_methR (i : Nat) {k : Nat} {S : RSpec} {pl : Env → Sem Bool} (K : ClsD T Cc ns) (F : RFn T Cc k m' S) (hr : r[i]? = some (insP T Cc a dx fs).asG) (ha : DAs C (e :: es) r ds) (hS : S ds fs d) (hm : fs.lookup m' = none) (hfl : flatD d = true := by rfl) (hk : k ≤ C.k := by first | decide | (dsimp only [CS.blk]; decide)) (hN : C.N[i]? = some x := by rfl) (hv : visB C.tab x = true := by rfl)
    (hd : (x == ("__debug__" : Str)) = false := by decide) (hcd : (x == ("__classdict__" : Str)) = false := by decide)
    (hst : ∀ env : Env, starEach (e :: es) env = (false, eval e env) :: starEach es env := by intro _; rfl) (hpl : ∀ env : Env, (backTo cpos (starEach es env)).any (·.1) = false := by intro _; rfl)
    (ht : ∀ env : Env, eval (.Call (.Attribute (.Name x np) m' apos) (e :: es) [] cpos) env = (do
      let ov ← eval (.Name x np) env
      standAt apos.atName
      let (f, first) ← holding [ov] (getMethod ov m' (pl env))
      callWith cpos f first (backTo cpos (starEach (e :: es) env)) (backToKw cpos (keywordEach [] env))) := by intro _; rfl) :
    DE C (.Call (.Attribute (.Name x np) m' apos) (e :: es) [] cpos) r d := by
  obtain ⟨f, fd, ps, F, hM, hb⟩ := F.ex
  obtain ⟨ta, pa, ea⟩ := ha
  refine ⟨tMeth Cc m' (spR T Cc S) [] E0 (tVar i) ta, fun X hX => ?_, fun σ G H Q e s q => ?_⟩
  · have c := C.ok X hX
    have hv1 : PE X (.Name x np) (tVar i) := pe_var (by rw [c.eN]; exact hN) (vis_of (by rw [c.etab]; exact hv)) hd hcd
    exact pe_meth hv1 (by rw [c.eK]; exact K.cls) (by rw [c.eK]; exact hM) (fnAt hX F) (c.room.mono hk) (by rw [c.eK]; exact hb) .nil pass0 (pa X hX) (hst X.env) (hpl X.env) (ht X.env)
  · have hs := s.at_ i _ hr
    obtain ⟨_, e1, ⟨rfl, _, _, vs, h3, h4⟩, _⟩ := id hs
    rw [e1] at hs
    refine ⟨_, e1, a, dx, vs, rfl, e _ _ h3, h4.none hm, ea σ G H _ e s fun ws G1 H1 x1 r1 => ?_⟩
    refine ⟨a, dx, fs, ws, ds, d, by rw [List.append_nil], hS, asG_mono (e.trans x1.h) hs, r1.mono x1.gh, fun z G' H' x2 rz => ?_⟩
    exact q z G1 H' (x1.trans ⟨Same.refl _, x2.h, x1.gh.trans x2.h, fun _ _ _ w => w⟩) (rz.flat hfl G1)
theorem rfn_of {x qual : Str} {st : Stmt} {N ps : List Str} {tab : List (Str × NameKind)} {k : Nat} {S : RSpec} (D : MethAt T Cc x qual st ps) (Sc : FnScope N ps (defScope st)) (ht : (defScope st).names = tab) (hlen : ∀ ds fs d, S ds fs d → ds.length + 1 = ps.length)
    (body : ∀ a dx ds fs d, S ds fs d → ∀ (Z : Cx → Prop) (ok : ∀ X, Z X → CxIs T N tab k (fun _ => true) X), DSs (CS.mk Z N tab k (fun _ => true) ok) (defBody st) ((insP T Cc a dx fs).asG :: entry (N.length - 1) ds) (fun z => z = d) [.bot]) : RFn T Cc (k + 1) x S := by
  obtain ⟨f, fd, F, hM, hb⟩ := D.ex
  refine ⟨f, fd, ps, F.ok Sc (fun vs H Q E h => ?_) (fun cdv A outer s H vs Q E hr h => ?_), hM, hb⟩
  · obtain ⟨a, dx, fs, ws, ds, d, rfl, hS, _, hv, _⟩ := h
    rw [List.length_cons, hv.length, hlen ds fs d hS]
  · obtain ⟨a, dx, fs, ws, ds, d, rfl, hS, hs, hv, q⟩ := h
    obtain ⟨t, pt, et⟩ := body a dx ds fs d hS (fun Y => Y = (cxOf CX0 T.P T.w T.K T.mg T.base N qual (defScope st) f cdv A outer s H E).nox) (fun X e => by
      subst e
      exact ⟨rfl, rfl, rfl, rfl, rfl, Sc.nd, rfl, ht, Sc.kind, rfl, hr, fun _ _ => rfl, rfl⟩)
    refine ⟨t, pt _ rfl, et H H _ H H _ ⟨.refl (Same.refl _), sl_startS hs hv, fun i z hz => ?_⟩ (fun σ' G' H' h' => (h'.sl.at_ 0 .bot rfl).elim) (fun d' v G' H' e x r => by subst e; exact q v G' H' x r)⟩
    cases i with
    | zero => exact absurd hz (OwnV.no (s := (insP T Cc a dx fs).asG) trivial)
    | succ i =>
      refine absurd (show OwnAt (entry (N.length - 1) ds) (L2.start N (.ref a :: ws)).tail i z from ?_) own_entry
      unfold OwnAt at hz ⊢
      rw [List.getElem?_cons_succ] at hz
      rw [List.getElem?_tail]
      exact hz
/-! ### a method without arguments that makes a list of plain values -/
abbrev LSpec := List (Str × FV) → List PyData → Prop
def spL (T : Tx) (Cc : Addr) (S : LSpec) : Sp := fun vs H Q _ => ∃ a dx fs ys, vs = [.ref a] ∧ S fs ys ∧ SlotOk T H H (some (some (.ref a))) (insP T Cc a dx fs).asG ∧
  ∀ o xs H', H o = none → Same H H' → H' o = some (.lst xs) → RpAll T H' xs ys → Q (.ref o) H'
structure LFn (T : Tx) (Cc : Addr) (k : Nat) (m : Str) (S : LSpec) : Prop where
  ex : ∃ f fd ps, FnOk T.P T.w T.K T.mg T.base CX0 k f fd ps (spL T Cc S) ∧ Meth T.K Cc m f ∧ Binds T.K fd ps []
theorem dn_methL (i : Nat) {k : Nat} {S : LSpec} {pl : Env → Sem Bool} (K : ClsD T Cc ns) (F : LFn T Cc k m' S) (hr : r[i]? = some (insP T Cc a dx fs).asG) (hS : S fs ys) (hm : fs.lookup m' = none) (hfl : ∀ y ∈ ys, flatD y = true) (hk : k ≤ C.k := by first | decide | (dsimp only [CS.blk]; decide)) (hN : C.N[i]? = some x := by rfl) (hv : visB C.tab x = true := by rfl)
    (hd : (x == ("__debug__" : Str)) = false := by decide) (hcd : (x == ("__classdict__" : Str)) = false := by decide)
    (ht : ∀ env : Env, eval (.Call (.Attribute (.Name x np) m' apos) [] [] cpos) env = (do
      let ov ← eval (.Name x np) env
      standAt apos.atName
      let (f, first) ← holding [ov] (getMethod ov m' (pl env))
      callWith cpos f first (backTo cpos (starEach [] env)) (backToKw cpos (keywordEach [] env))) := by intro _; rfl) :
    DN C (.Call (.Attribute (.Name x np) m' apos) [] [] cpos) r ys := by
  obtain ⟨f, fd, ps, F, hM, hb⟩ := F.ex
  refine ⟨tMeth Cc m' (spL T Cc S) [] E0 (tVar i) tNil, fun X hX => ?_, fun σ G H Q e s q => ?_⟩
  · have c := C.ok X hX
    have hv1 : PE X (.Name x np) (tVar i) := pe_var (by rw [c.eN]; exact hN) (vis_of (by rw [c.etab]; exact hv)) hd hcd
    exact pe_meth0 hv1 (by rw [c.eK]; exact K.cls) (by rw [c.eK]; exact hM) (fnAt hX F) (c.room.mono hk) (by rw [c.eK]; exact hb) .nil pass0 (ht X.env)
  · have hs := s.at_ i _ hr
    obtain ⟨_, e1, ⟨rfl, _, _, vs, h3, h4⟩, _⟩ := id hs
    rw [e1] at hs
    refine ⟨_, e1, a, dx, vs, rfl, e _ _ h3, h4.none hm, ?_⟩
    refine ⟨a, dx, fs, ys, rfl, hS, asG_mono e hs, fun o xs H' ho hH hl hr' => ?_⟩
    exact q o xs G H' ho ⟨Same.refl _, hH, e.trans hH, fun _ _ _ w => w⟩ (e.free ho) hl (flatAll G xs ys hfl hr')
theorem lfn_of {x qual : Str} {st : Stmt} {N ps : List Str} {tab : List (Str × NameKind)} {k : Nat} {S : LSpec} {rpos : Pos} (D : MethAt T Cc x qual st ps) (Sc : FnScope N ps (defScope st)) (ht : (defScope st).names = tab) (hlen : ps.length = 1) (hbd : defBody st = [.Return (some e) rpos])
    (body : ∀ a dx fs ys, S fs ys → ∀ (Z : Cx → Prop) (ok : ∀ X, Z X → CxIs T N tab k (fun _ => true) X), DN (CS.mk Z N tab k (fun _ => true) ok) e ((insP T Cc a dx fs).asG :: entry (N.length - 1) []) ys) : LFn T Cc (k + 1) x S := by
  obtain ⟨f, fd, F, hM, hb⟩ := D.ex
  refine ⟨f, fd, ps, F.ok Sc (fun vs H Q E h => ?_) (fun cdv A outer s H vs Q E hr h => ?_), hM, hb⟩
  · obtain ⟨a, dx, fs, ys, rfl, _⟩ := h
    rw [hlen]; rfl
  · obtain ⟨a, dx, fs, ys, rfl, hS, hs, q⟩ := h
    obtain ⟨t, pt, et⟩ := body a dx fs ys hS (fun Y => Y = (cxOf CX0 T.P T.w T.K T.mg T.base N qual (defScope st) f cdv A outer s H E).nox) (fun X e => by
      subst e
      exact ⟨rfl, rfl, rfl, rfl, rfl, Sc.nd, rfl, ht, Sc.kind, rfl, hr, fun _ _ => rfl, rfl⟩)
    rw [hbd]
    refine ⟨tRet t, pss_one (ps_ret (pt _ rfl)), et _ H H _ (Same.refl _) (sl_startS hs .nil) fun o xs G' H' ho x hg hl hra => ?_⟩
    exact q o xs H' ho x.h hl (hra.mono x.gh)
end
end DL

/-! DL, part X: ways out of a loop; comprehensions of two clauses; three names stored; a text's entry of a written dict. -/
namespace DL
open PySem PySem.Spec L2
open PyProof.Rows hiding St
section
variable {T : Tx} {C : CS T} {r r1 r2 : Sls} {R : PyData → Prop} {a b c e tg : Expr} {sts rest body : List Stmt} {st : Stmt} {pos p p2 pos' tpos : Pos} {d d' f : PyData} {ds ds' : List PyData}
/-! ### after a return -/
theorem dg_bot {ix : List Nat} : DG C tg [.bot] d r1 ix := ⟨fun _ _ _ _ => False, fun X hX => ⟨fun _ _ _ _ _ _ _ _ _ h => h.elim⟩, fun σ G H v Q e h _ _ => (h.at_ 0 .bot rfl).elim⟩
theorem dss_bot : DSs C sts [.bot] R r1 := ⟨tNever, fun X hX => pss_never, fun G0 H0 σ G H D h _ _ => (h.sl.at_ 0 .bot rfl).elim⟩
theorem dss_any (h : DSs C sts r R [.bot]) : DSs C sts r R r1 := by
  obtain ⟨t, pt, et⟩ := h
  exact ⟨t, pt, fun G0 H0 σ G H D h q qr => et G0 H0 σ G H D h (fun σ' G' H' h' => (h'.sl.at_ 0 .bot rfl).elim) qr⟩
theorem ds_any (h : DS C st r R [.bot]) : DS C st r R r1 := by
  obtain ⟨t, pt, et⟩ := h
  exact ⟨t, pt, fun G0 H0 σ G H D h q qr => et G0 H0 σ G H D h (fun σ' G' H' h' => (h'.sl.at_ 0 .bot rfl).elim) qr⟩
/-- a loop that goes on for k turns, and goes out at turn k where there is one -/
theorem dss_forR {its : List PyData} (hi : DI C tg e r its) (k : Nat) (hk : k ≤ its.length) (ri : Nat → Sls) (h0 : ri 0 = r) (hb : ∀ i d, i < k → its[i]? = some d → ∃ r2 ix, DG C tg (ri i) d r2 ix ∧ DSs C body r2 R (ri (i + 1)))
    (hret : ∀ d, its[k]? = some d → ∃ r2 ix, DG C tg (ri k) d r2 ix ∧ DSs C body r2 R [.bot]) (hrest : k = its.length → DSs C rest (ri k) R r1)
    (hs : ∀ (env : Env) (x : Value), foldedSetIterable e env x = pure x := by intro _ _; rfl) : DSs C (.For tg e body [] pos :: rest) r R r1 := by
  refine dss_cons (r1 := (fun i => if i ≤ k then ri i else [.bot]) its.length) (ds_for hi (fun i => if i ≤ k then ri i else [.bot]) (by simpa using h0) (fun i d hd => ?_) hs) ?_
  · by_cases hlt : i < k
    · obtain ⟨r2, ix, h1, h2⟩ := hb i d hlt hd
      exact ⟨r2, ix, by rw [if_pos (Nat.le_of_lt hlt)]; exact h1, by rw [if_pos (show i + 1 ≤ k from hlt)]; exact h2⟩
    · by_cases he : i = k
      · subst he
        obtain ⟨r2, ix, h1, h2⟩ := hret d hd
        exact ⟨r2, ix, by rw [if_pos (Nat.le_refl _)]; exact h1, by rw [if_neg (by omega)]; exact h2⟩
      · exact ⟨[.bot], [], by rw [if_neg (by omega)]; exact dg_bot, dss_bot⟩
  · show DSs C rest (if its.length ≤ k then ri its.length else [.bot]) R r1
    by_cases he : its.length ≤ k
    · have : k = its.length := Nat.le_antisymm hk he
      rw [if_pos he, ← this]
      exact hrest this
    · rw [if_neg he]; exact dss_bot
/-! ### [elt for tg in iter for tg1 in iter1] -/
theorem take_flat {α : Type} {ys : List (List α)} {i : Nat} (h : i < ys.length) : (ys.take (i + 1)).flatten = (ys.take i).flatten ++ ys[i] := by
  rw [List.take_succ_eq_append_getElem h, List.flatten_append]
  simp
theorem flat_len {α : Type} {ys : List (List α)} {i j : Nat} (h : i < ys.length) : ((ys.take i).flatten ++ ys[i].take j).length ≤ ys.flatten.length := by
  have e : ys.flatten = (ys.take (i + 1)).flatten ++ (ys.drop (i + 1)).flatten := by rw [← List.flatten_append, List.take_append_drop]
  rw [e, take_flat h]
  simp only [List.length_append, List.length_take]
  omega
def plainS : SV → Bool
  | .unk => true
  | .dat _ => true
  | _ => false
theorem Sl.plain {G H G' H' : Hp} {σ : L2.St} (h : Sl T r σ G H) (p : r.all plainS = true) (s : Same G G') : Sl T r σ G' H' := by
  refine ⟨h.len, fun i v hv => ?_⟩
  have q := h.at_ i v hv
  have pv : plainS v = true := List.all_eq_true.mp p v (List.mem_of_getElem? hv)
  cases v with
  | unk => trivial
  | dat d => obtain ⟨w, e1, e2⟩ := q; exact ⟨w, e1, e2.mono s⟩
  | own ds => cases pv
  | ownd kvs => cases pv
  | gen φ m => cases pv
  | obj P => cases pv
  | bot => cases pv
theorem dn_lc2 {its : List PyData} {ys : List (List PyData)} {elt iter tg1 iter1 : Expr} {scope : Scope} (own : List (Str × Nat)) (vs1 : List Nat) (hv : ∀ i ∈ vs1, i ∈ own.map (·.2)) (hi : DI C tg iter r its) (hlen : ys.length = its.length) (htot : ys.flatten.length ≤ 1000000)
    (hb : ∀ i (h : i < its.length), ∃ r2 ix its1, DG (C.blk scope) tg (wipeS r (own.map (·.2))) its[i] r2 ix ∧ (∀ k ∈ ix, k ∈ own.map (·.2)) ∧ r2.all plainS = true ∧ DI (C.blk scope) tg1 iter1 r2 its1 ∧ its1.length = (ys[i]'(by omega)).length ∧
      ∀ j (hj : j < its1.length) (hj' : j < (ys[i]'(by omega)).length), ∃ r3 ix1, DG (C.blk scope) tg1 (wipeS r2 vs1) its1[j] r3 ix1 ∧ (∀ k ∈ ix1, k ∈ vs1) ∧ DE (C.blk scope) elt r3 ((ys[i]'(by omega))[j]'hj'))
    (hk : scope.kind = .function := by rfl) (hok : blkC C.N (scopeOf C.tab) scope own = true := by first | decide +kernel | (dsimp only [CS.blk]; decide +kernel))
    (hs : ∀ (env : Env) (x : Value), foldedSetIterable iter env x = pure x := by intro _ _; rfl) (hs1 : ∀ (env : Env) (x : Value), foldedSetIterable iter1 env x = pure x := by intro _ _; rfl) :
    DN C (.ListComp elt [⟨tg, iter, [], 0⟩, ⟨tg1, iter1, [], 0⟩] scope pos) r ys.flatten := by
  obtain ⟨wi, pi, ei⟩ := hi
  let g : TG := fun v σ H Q => ∃ g', (∀ X, (C.blk scope).S X → PG X tg g') ∧ g' v σ H Q
  let g1 : TG := fun v σ H Q => ∃ g', (∀ X, (C.blk scope).S X → PG X tg1 g') ∧ g' v σ H Q
  let w1 : TI := fun σ H R => ∃ w', (∀ X, (C.blk scope).S X → PI X tg1 iter1 w') ∧ w' σ H R
  let te : TE := fun σ H Q => ∃ t', (∀ X, (C.blk scope).S X → PE X elt t') ∧ t' σ H Q
  refine ⟨tLc2 wi g tYes w1 g1 tYes te (own.map (·.2)) vs1, fun X hX => ?_, ?_⟩
  · have c := C.ok X hX
    have mem : ∀ (s : Shared) (H : Hp) (A : Addr) (cl : List (Str × Addr)) (fp : List Addr), (C.blk scope).S (X.blk s H scope (compEnvC scope cl A X.env) fp) := fun s H A cl fp => ⟨hk, X, s, H, A, cl, fp, hX, rfl⟩
    exact pe_lc2 c.calm (by rw [c.eN]; exact c.nd) (pi X hX) (blk_of hX hok) hv
      (fun s H A cl fp => ⟨fun pins s σ H v u Q I rv ⟨g', p', h'⟩ => (p' _ (mem _ _ _ _ _)).run pins s σ H v u Q I rv h'⟩) (fun s H A cl fp => pts_nil)
      (fun s H A cl fp => ⟨fun pins s σ H R I ⟨g', p', h'⟩ => (p' _ (mem _ _ _ _ _)).run pins s σ H R I h'⟩)
      (fun s H A cl fp => ⟨fun pins s σ H v u Q I rv ⟨g', p', h'⟩ => (p' _ (mem _ _ _ _ _)).run pins s σ H v u Q I rv h'⟩) (fun s H A cl fp => pts_nil)
      (fun s H A cl fp => ⟨fun pins s σ H Q I ⟨g', p', h'⟩ => (p' _ (mem _ _ _ _ _)).run pins s σ H Q I h'⟩) (hs X.env) hs1
  · intro σ G H Q e s q
    refine ei σ G H _ e s fun J G1 H1 x1 W D hD => ?_
    have W0 : Ext G H G1 (upd H1 D (.lst [])) := x1.trans (.hid x1.gh hD)
    have hn0 : H D = none := x1.h.free hD
    refine ⟨fun i m H' => m = its.length - i ∧ i ≤ its.length ∧ ∃ G' acc, Ext G H G' H' ∧ Same G1 G' ∧ G' D = none ∧ H' D = some (.lst acc) ∧ RpAll T G' acc (ys.take i).flatten,
      ⟨its.length, by omega, Nat.zero_le _, G1, [], W0, Same.refl _, x1.gh.free hD, upd_same, .nil⟩, ?_⟩
    rintro i m H' ⟨rfl, hle, G', acc, x2, sG, hG, hH, ra⟩
    by_cases hlt : i < its.length
    · have hly : i < ys.length := by omega
      obtain ⟨hgo, hy⟩ := W.go i its[i] G' H' (List.getElem?_eq_getElem hlt) sG x2.gh
      refine .inr ⟨hgo, fun H2 => ∃ G2 acc, Ext G H G2 H2 ∧ Same G1 G2 ∧ G2 D = none ∧ H2 D = some (.lst acc) ∧ RpAll T G2 acc (ys.take (i + 1)).flatten, fun H2 h2 => ⟨its.length - (i + 1), by omega, rfl, hlt, h2⟩, fun x H2 y => ?_⟩
      obtain ⟨G3, x3, r3⟩ := hy x H2 y
      have x23 := x2.trans x3
      have hH3 := x3.h _ _ hH
      have hG3 := x3.sep _ _ hH hG
      have ra3 := ra.mono x3.g
      obtain ⟨r2, ix, its1, ⟨g', pg, eg⟩, hix, hpl, ⟨wi1, pi1, ei1⟩, hl1, hin⟩ := hb i hlt
      refine ⟨g', pg, eg _ G3 H2 x _ x3.gh ((s.mono x23).wipe _) r3 fun σ2 s2 t2 => ⟨t2.wipe hix, ?_⟩⟩
      dsimp only [tYes]
      rw [if_pos rfl]
      refine ⟨wi1, pi1, ei1 σ2 G3 H2 _ x3.gh s2 fun J1 G4 H4 x4 W1 => ?_⟩
      have hH4 := x4.h _ _ hH3
      have hG4 := x4.sep _ _ hH3 hG3
      refine ⟨fun j k H' => k = its1.length - j ∧ j ≤ its1.length ∧ ∃ G' acc, Ext G H G' H' ∧ Same G4 G' ∧ G' D = none ∧ H' D = some (.lst acc) ∧ RpAll T G' acc ((ys.take i).flatten ++ (ys[i]'hly).take j), ⟨its1.length, by omega, Nat.zero_le _, G4, acc, x23.trans x4, Same.refl _, hG4, hH4, by simpa using ra3.mono x4.g⟩, ?_⟩
      rintro j k H5 ⟨rfl, hje, G5, acc5, x5, sG5, hG5, hH5, ra5⟩
      by_cases hjt : j < its1.length
      · have hjy : j < (ys[i]'hly).length := by omega
        obtain ⟨hgo1, hy1⟩ := W1.go j its1[j] G5 H5 (List.getElem?_eq_getElem hjt) sG5 x5.gh
        refine .inr ⟨hgo1, fun H6 => ∃ G6 acc, Ext G H G6 H6 ∧ Same G4 G6 ∧ G6 D = none ∧ H6 D = some (.lst acc) ∧ RpAll T G6 acc ((ys.take i).flatten ++ (ys[i]'hly).take (j + 1)), fun H6 h6 => ⟨its1.length - (j + 1), by omega, rfl, hjt, h6⟩, fun x' H6 y' => ?_⟩
        obtain ⟨G7, x7, r7⟩ := hy1 x' H6 y'
        have x57 := x5.trans x7
        obtain ⟨r3', ix1, ⟨g1', pg1, eg1⟩, hix1, t', pt', et'⟩ := hin j hjt hjy
        have s7 : Sl T r2 σ2 G7 H6 := s2.plain hpl ((x4.g.trans sG5).trans x7.g)
        refine ⟨g1', pg1, eg1 _ G7 H6 x' _ x7.gh (s7.wipe _) r7 fun σ3 s3 t3 => ⟨t3.wipe hix1, ?_⟩⟩
        dsimp only [tYes]
        rw [if_pos rfl]
        refine ⟨t', pt', et' σ3 G7 H6 _ x7.gh s3 fun v G8 H8 x8 r8 => ?_⟩
        have x78 := x7.trans x8
        have x58 := x5.trans x78
        have hH8 := x78.h _ _ hH5
        have hG8 := x78.sep _ _ hH5 hG5
        have hle5 : acc5.length ≤ 1000000 := by
          rw [ra5.length]
          exact Nat.le_trans (flat_len hly) htot
        refine ⟨acc5, hH8, smallLt hle5, G8, acc5 ++ [v], ⟨x58.g, fun b u e => ?_, fun b u e => ?_, x58.sep⟩, (sG5.trans x7.g).trans x8.g, hG8, upd_same, ?_⟩
        · rw [upd_ne (ne_of_none e hn0)]; exact x58.h b u e
        · rw [upd_ne (ne_of_none e hG8)]; exact x58.gh b u e
        · rw [List.take_succ_eq_append_getElem hjy, ← List.append_assoc]
          exact ((ra5.mono x7.g).mono x8.g).snoc r8
      · have ej : j = its1.length := by omega
        subst ej
        refine .inl ⟨W1.stop G5 H5 sG5 x5.gh, G5, acc5, x5, ((sG.trans x3.g).trans x4.g).trans sG5, hG5, hH5, ?_⟩
        rw [take_flat hly]
        rw [hl1, List.take_length] at ra5
        exact ra5
    · have ei' : i = its.length := by omega
      subst ei'
      rw [← hlen, List.take_length] at ra
      exact .inl ⟨W.stop G' H' sG x2.gh, q D acc G' H' hn0 x2 hG hH ra⟩
/-! ### {"x": a, ..}[e] -/
def DPs (C : CS T) (pos : Pos) (keys : List (Option Expr)) (values : List Expr) (r : Sls) (kvs : List (Str × Int)) : Prop := ∃ trs, (∀ X, C.S X → PPs X pos keys values trs) ∧
  ∀ (σ : L2.St) (G H : Hp) (Q : List (V × V) → Hp → Prop), Same G H → Sl T r σ G H → (∀ G' H', Ext G H G' H' → Q (kvs.map fun p => (V.str p.1, V.int p.2)) H') → tPairs trs σ H Q
theorem dps_nil : DPs C pos [] [] r [] := ⟨[], fun X hX => pps_nil, fun σ G H Q e s q => q G H (.refl e)⟩
theorem dps_cons {k v : Expr} {ks : List (Option Expr)} {vs : List Expr} {x : Str} {n : Int} {kvs : List (Str × Int)} (hk : DE C k r (.str x)) (hv : DE C v r (.int n)) (hr : DPs C pos ks vs r kvs) : DPs C pos (some k :: ks) (v :: vs) r ((x, n) :: kvs) := by
  obtain ⟨tk, pk, ek⟩ := hk
  obtain ⟨tv, pv, ev⟩ := hv
  obtain ⟨ts, ps, es⟩ := hr
  refine ⟨(tk, tv) :: ts, fun X hX => pps_cons (pk X hX) (pv X hX) (ps X hX), fun σ G H Q e s q => ?_⟩
  refine ek σ G H _ e s fun z G1 H1 x1 r1 => ?_
  refine ev σ G1 H1 _ x1.gh (s.mono x1) fun w G2 H2 x2 r2 => ?_
  refine es σ G2 H2 _ x2.gh ((s.mono x1).mono x2) fun G3 H3 x3 => ?_
  cases r1
  cases r2
  exact q G3 H3 ((x1.trans x2).trans x3)
theorem de_txt {keys : List (Option Expr)} {values : List Expr} {kvs : List (Str × Int)} {y : Str} {n : Int} {dpos : Pos} (h : DPs C dpos keys values r kvs) (hi : DE C b r (.str y)) (hval : valV (mergeK [] (kvs.map fun p => ((.inr p.1 : Key), V.int p.2))) (.inr y) = some (.int n)) (h15 : kvs.length ≤ 15)
    (hall : keys.all (·.isSome) = true := by rfl) (hl : keys.length = values.length := by rfl) (h0 : keys ≠ [] := by simp) (hk15 : keys.length ≤ 15 := by decide) (hs : NoSl b := by intro _ _; rfl) : DE C (.Subscript (.Dict keys values dpos) b pos) r (.int n) := by
  obtain ⟨trs, pp, ep⟩ := h
  obtain ⟨tb, pb, eb⟩ := hi
  refine ⟨tDGet (tDisp trs) tb, fun X hX => ?_, fun σ G H Q e s q => fun p hp => ?_⟩
  · have c := C.ok X hX
    exact pe_dget (by have := c.room.un; omega) (pe_disp (pp X hX) hall hl h0 hk15) (pb X hX) hs
  · have e0 := Ext.hid (o := .dK []) e hp
    refine ep σ G _ _ e0.gh (s.mono e0) fun G1 H1 x1 => ?_
    have hD := x1.h _ _ (upd_same (H := H) (a := p) (o := .dK []))
    have gD := x1.sep p _ upd_same (e.free hp)
    refine ⟨hD, kvs.map fun p => ((.inr p.1 : Key), V.int p.2), by simp [kV, Function.comp_def], by simpa using h15, ?_⟩
    have x2 : Ext G H G1 (upd H1 p (.dK (mergeK [] (kvs.map fun p => ((.inr p.1 : Key), V.int p.2))))) := by
      refine ⟨x1.g, fun z u w => ?_, fun z u w => ?_, fun z u w1 w2 => ?_⟩
      · rw [upd_ne (ne_of_none w hp)]
        exact x1.h z u (by rw [upd_ne (ne_of_none w hp)]; exact w)
      · rw [upd_ne (ne_of_none w gD)]; exact x1.gh z u w
      · exact x1.sep z u (by rw [upd_ne (ne_of_none w1 hp)]; exact w1) w2
    refine eb σ G1 _ _ x2.gh (s.mono x2) fun v G3 H3 x3 r3 => ?_
    cases r3
    exact ⟨p, .int n, rfl, .inl ⟨_, .inr y, .inl (x3.h _ _ upd_same), rfl, hval.symm⟩, q _ G3 H3 (x2.trans x3) (.int n)⟩
/-! ### x, y, z = a, b, c -/
theorem ds_par3 (i j l : Nat) {x y z : Str} {u v w : Expr} {du dv dw : PyData} {px py pz pt : Pos} {kt k2 pt2} (ha : DAs C [u, v, w] r [du, dv, dw]) (hN : C.N[i]? = some x) (hN2 : C.N[j]? = some y) (hN3 : C.N[l]? = some z) (hij : i ≠ j) (hil : i ≠ l) (hjl : j ≠ l)
    (hx : C.tab.lookup x = some .local) (hy : C.tab.lookup y = some .local) (hz : C.tab.lookup z = some .local)
    (hw : ∀ env : Env, env.blockKind = .function → env.kindOf x = some .local → env.kindOf y = some .local → env.kindOf z = some .local → swappedStores [.Tuple [.Name x px, .Name y py, .Name z pz] kt pt] (.Tuple [u, v, w] k2 pt2) env = pure (some [x, y, z]))
    (hs : ∀ env : Env, swapsWithSole [.Tuple [.Name x px, .Name y py, .Name z pz] kt pt] (.Tuple [u, v, w] k2 pt2) pos.line env = pure false := by intro _; rfl) :
    DS C (.Assign [.Tuple [.Name x px, .Name y py, .Name z pz] kt pt] (.Tuple [u, v, w] k2 pt2) pos) r R (((r.set i (.dat du)).set j (.dat dv)).set l (.dat dw)) := by
  obtain ⟨ta, pa, ea⟩ := ha
  refine ⟨tPar3 i j l ta, fun X hX => ?_, fun G0 H0 σ G H D h q _ => ?_⟩
  · have c := C.ok X hX
    have lx : X.env.scope.names.lookup x = some .local := by rw [c.etab]; exact hx
    have ly : X.env.scope.names.lookup y = some .local := by rw [c.etab]; exact hy
    have lz : X.env.scope.names.lookup z = some .local := by rw [c.etab]; exact hz
    have hb : X.env.blockKind = .function := by unfold Env.blockKind; rw [c.fk]; rfl
    exact ps_par3 c.calm (by rw [c.eN]; exact c.nd) (by rw [c.eN]; exact hN) (by rw [c.eN]; exact hN2) (by rw [c.eN]; exact hN3) hij hil hjl lx ly lz (pa X hX) (hw X.env hb lx ly lz) (hs X.env)
  · refine ea σ G H _ h.ext.gh h.sl fun vs G1 H1 x1 r1 => ?_
    have hB := h.mono x1
    cases r1 with
    | cons r1 rr =>
      cases rr with
      | cons r2 rr =>
        cases rr with
        | cons r3 rr =>
          cases rr
          exact ⟨_, _, _, rfl, q _ G1 H1 (((hB.set r1).set r2).set r3)⟩
end
end DL

/-! DL, part Y: tests that are comparisons. -/
namespace DL
open PySem PySem.Spec L2
open PyProof.Rows hiding St
section
variable {T : Tx} {C : CS T} {r : Sls} {a b c e : Expr} {pos : Pos}
theorem isTrue_cmp1 (a b : Expr) (op : CmpOp) (pos : Pos) (env : Env) (whole : Sem Value) : PySem.isTrue (.Compare a [op] [b] pos) env whole = (do let v ← eval (.Compare a [op] [b] pos) env; holding [v] (truthy v)) := by
  have e1 : PySem.isTrue (.Compare a [op] [b] pos) env whole = (do testChain pos (← eval a env) [op] (markedEach [op] [b] (evalEach [b] env))) := rfl
  have e2 : eval (.Compare a [op] [b] pos) env = (do compareChain pos (← eval a env) [op] (markedEach [op] [b] (evalEach [b] env))) := rfl
  rw [e1, e2, bind_assoc]
  congr 1
  funext l
  have e3 : ∃ x, markedEach [op] [b] (evalEach [b] env) = [x] := ⟨_, rfl⟩
  obtain ⟨x, e3⟩ := e3
  rw [e3]
  show (do let rv ← holding [l] x; standAt pos; let c ← operate [l, rv] (compareOp op l rv); holding [c] (truthy c)) = ((do let rv ← holding [l] x; standAt pos; operate [l, rv] (compareOp op l rv)) >>= fun c => holding [c] (truthy c))
  simp only [bind_assoc]
theorem dt_cmp {x : Bool} {op : CmpOp} (h : DE C (.Compare a [op] [b] pos) r (.bool x)) : DT C (.Compare a [op] [b] pos) r x := by
  obtain ⟨t, pt, et⟩ := h
  refine ⟨tTest t, fun X hX => ⟨fun pins s σ H Q I h => ?_⟩, fun σ G H Q e s q => et σ G H _ e s fun v G1 H1 x1 r1 => ?_⟩
  · rw [isTrue_cmp1]
    refine wpAny_bind (thn ((pt X hX).run pins s σ H _ I h) fun v s1 ⟨z, H1, I1, r1, k, e1, q1⟩ => wpAny_holding ?_)
    subst e1
    cases r1
    exact wpAny_truthy_bool ⟨H1, I1, q1⟩
  · cases r1
    exact ⟨x, rfl, q G1 H1 x1⟩
theorem dt_le_lt {i j k : Int} (ha : DE C a r (.int i)) (hb : DE C b r (.int j)) (hc : DE C c r (.int k)) (hm : lastMarks [CmpOp.LtE, CmpOp.Lt] [b, c] = false := by rfl) : DT C (.Compare a [.LtE, .Lt] [b, c] pos) r (decide (i ≤ j) && decide (j < k)) := by
  obtain ⟨ta, pa, ea⟩ := ha
  obtain ⟨tb, pb, eb⟩ := hb
  obtain ⟨tc, pc, ec⟩ := hc
  refine ⟨_, fun X hX => pt_chain op_le op_lt (pa X hX) (pb X hX) (pc X hX) hm, fun σ G H Q e s q => ?_⟩
  refine ea σ G H _ e s fun v G1 H1 x1 r1 => ?_
  refine eb σ G1 H1 _ x1.gh (s.mono x1) fun u G2 H2 x2 r2 => ?_
  refine ⟨i, j, r1.int_inv, r2.int_inv, _, rfl, ?_⟩
  by_cases h : i ≤ j
  · rw [decide_eq_true h] at q ⊢
    rw [if_pos rfl]
    refine ec σ G2 H2 _ x2.gh (s.mono (x1.trans x2)) fun w G3 H3 x3 r3 => ?_
    exact ⟨j, k, r2.int_inv, r3.int_inv, _, rfl, q G3 H3 ((x1.trans x2).trans x3)⟩
  · rw [decide_eq_false h] at q ⊢
    rw [if_neg (by decide)]
    exact ⟨false, rfl, q G2 H2 (x1.trans x2)⟩
variable {tg elt : Expr} {ifs : List Expr} {r2 : Sls} {ix vs : List Nat} {d y : PyData}
theorem dts_eq {x z : Bool} (h : DTs C ifs r x) (e : x = z) : DTs C ifs r z := e ▸ h
theorem dt_eq {x z : Bool} (h : DT C e r x) (q : x = z) : DT C e r z := q ▸ h
theorem de_to {d' : PyData} (h : DE C e r d) (q : d = d') : DE C e r d' := q ▸ h
theorem lct_if {x z : Bool} (h1 : DG C tg (wipeS r vs) d r2 ix) (h3 : DTs C ifs r2 x) (h4 : x = true → DE C elt r2 y) (e : x = z) (h2 : ∀ i ∈ ix, i ∈ vs := by decide) : LcTurn C tg elt ifs r vs d (if z = true then some y else none) := by
  subst e
  refine ⟨r2, ix, h1, h2, ?_⟩
  cases x with
  | true => exact ⟨h3, h4 rfl⟩
  | false => exact h3
theorem lct_all (h1 : DG C tg (wipeS r vs) d r2 ix) (h4 : DE C elt r2 y) (h2 : ∀ i ∈ ix, i ∈ vs := by decide) : LcTurn C tg elt [] r vs d (some y) := ⟨r2, ix, h1, h2, dts_nil, h4⟩
/-- the slots written out anew -/
theorem dss_at {sts : List Stmt} {R : PyData → Prop} {r1 : Sls} (r' : Sls) (k : DSs C sts r' R r1) (e : r = r' := by rfl) : DSs C sts r R r1 := e ▸ k
theorem ret_at {sts : List Stmt} {R : PyData → Prop} {r1 : Sls} (r' : Sls) (k : DSs C sts r R r') (e : r' = r1 := by rfl) : DSs C sts r R r1 := e ▸ k
end
abbrev dI (n : Int) : SV := .dat (.int n)
/-- slots forgotten -/
inductive Wk : Sls → Sls → Prop
  | nil : Wk [] []
  | keep {s : SV} {r r' : Sls} : Wk r r' → Wk (s :: r) (s :: r')
  | drop {s : SV} {r r' : Sls} : Wk r r' → Wk (s :: r) (.unk :: r')
theorem Wk.len {r r' : Sls} (h : Wk r r') : r.length = r'.length := by
  induction h with
  | nil => rfl
  | keep _ ih => rw [List.length_cons, List.length_cons, ih]
  | drop _ ih => rw [List.length_cons, List.length_cons, ih]
theorem Wk.at_ {r r' : Sls} (h : Wk r r') : ∀ {i : Nat} {s : SV}, r'[i]? = some s → r[i]? = some s ∨ s = .unk := by
  induction h with
  | nil => intro i s e; simp at e
  | keep _ ih =>
    intro i s e
    cases i with
    | zero => exact .inl e
    | succ i => rw [List.getElem?_cons_succ] at e ⊢; exact ih e
  | drop _ ih =>
    intro i s e
    cases i with
    | zero => simp at e; exact .inr e.symm
    | succ i => rw [List.getElem?_cons_succ] at e ⊢; exact ih e
section
variable {T : Tx} {C : CS T} {r r1 r2 : Sls} {R : PyData → Prop} {sts rest body : List Stmt} {st : Stmt} {tg e : Expr} {pos : Pos}
variable {G0 H0 G H : Hp} {σ : L2.St}
theorem Bs.wk (h : Bs T G0 H0 r σ G H) (w : Wk r r1) : Bs T G0 H0 r1 σ G H := by
  have ow : ∀ i a, OwnAt r1 σ i a → OwnAt r σ i a := fun i a ho => by
    unfold OwnAt at ho ⊢
    cases q : r1[i]? with
    | none => rw [q] at ho; exact absurd ho OwnV.none
    | some s =>
      rw [q] at ho
      rcases w.at_ q with q' | rfl
      · rw [q']; exact ho
      · exact absurd ho (OwnV.no (s := .unk) trivial)
  refine ⟨h.ext, ⟨h.sl.len.trans w.len, fun i s hs => ?_⟩, fun i a ho => ?_⟩
  · rcases w.at_ hs with q | rfl
    · exact h.sl.at_ i s q
    · trivial
  · obtain ⟨q1, q2⟩ := h.own i a (ow i a ho)
    exact ⟨q1, fun j hj => q2 j (ow j a hj)⟩
theorem dss_wk (h : DSs C sts r R r1) (w : Wk r1 r2) : DSs C sts r R r2 := by
  obtain ⟨t, pt, et⟩ := h
  exact ⟨t, pt, fun G0 H0 σ G H D h q qr => et G0 H0 σ G H D h (fun σ' G' H' h' => q σ' G' H' (h'.wk w)) qr⟩
theorem dss_pre (w : Wk r r1) (h : DSs C sts r1 R r2) : DSs C sts r R r2 := by
  obtain ⟨t, pt, et⟩ := h
  exact ⟨t, pt, fun G0 H0 σ G H D h q qr => et G0 H0 σ G H D (h.wk w) q qr⟩
/-- a loop, what is not told of at a turn forgotten -/
theorem dss_forC {its : List PyData} (ri : Nat → Sls) (h0 : Wk r (ri 0)) (hi : DI C tg e (ri 0) its) (hb : ∀ i d, its[i]? = some d → ∃ r2 ix, DG C tg (ri i) d r2 ix ∧ ∃ r3, DSs C body r2 R r3 ∧ Wk r3 (ri (i + 1))) (hrest : DSs C rest (ri its.length) R r1)
    (hs : ∀ (env : Env) (x : Value), foldedSetIterable e env x = pure x := by intro _ _; rfl) : DSs C (.For tg e body [] pos :: rest) r R r1 :=
  dss_pre h0 (dss_cons (ds_for hi ri rfl (fun i d hd => by
    obtain ⟨r2, ix, h1, r3, h2, w⟩ := hb i d hd
    exact ⟨r2, ix, h1, dss_wk h2 w⟩) hs) hrest)
/-- a loop that may be gone out of at turn k -/
theorem dss_forO {its : List PyData} (k : Nat) (hk : k ≤ its.length) (ri : Nat → Sls) (h0 : Wk r (ri 0)) (hi : DI C tg e (ri 0) its) (hb : ∀ i d, i < k → its[i]? = some d → ∃ r2 ix, DG C tg (ri i) d r2 ix ∧ ∃ r3, DSs C body r2 R r3 ∧ Wk r3 (ri (i + 1)))
    (hret : ∀ d, its[k]? = some d → ∃ r2 ix, DG C tg (ri k) d r2 ix ∧ DSs C body r2 R [.bot]) (hrest : k = its.length → DSs C rest (ri k) R r1)
    (hs : ∀ (env : Env) (x : Value), foldedSetIterable e env x = pure x := by intro _ _; rfl) : DSs C (.For tg e body [] pos :: rest) r R r1 :=
  dss_pre h0 (dss_forR hi k hk ri rfl (fun i d hl hd => by
    obtain ⟨r2, ix, h1, r3, h2, w⟩ := hb i d hl hd
    exact ⟨r2, ix, h1, dss_wk h2 w⟩) hret hrest hs)
end
theorem findSome_split {α β : Type} (f : α → Option β) (xs : List α) : (∃ k x y, xs[k]? = some x ∧ f x = some y ∧ (∀ (i : Nat) (x : α), i < k → xs[i]? = some x → f x = none) ∧ xs.findSome? f = some y) ∨ ((∀ (i : Nat) (x : α), xs[i]? = some x → f x = none) ∧ xs.findSome? f = none) := by
  induction xs with
  | nil => exact .inr ⟨fun i x h => by simp at h, rfl⟩
  | cons a xs ih =>
    cases e : f a with
    | some y => exact .inl ⟨0, a, y, rfl, e, fun i x h => by omega, by rw [List.findSome?_cons, e]⟩
    | none =>
      rcases ih with ⟨k, x, y, h1, h2, h3, h4⟩ | ⟨h1, h2⟩
      · refine .inl ⟨k + 1, x, y, by rw [List.getElem?_cons_succ]; exact h1, h2, fun i z hi hz => ?_, by rw [List.findSome?_cons, e]; exact h4⟩
        cases i with
        | zero => simp at hz; subst hz; exact e
        | succ i => rw [List.getElem?_cons_succ] at hz; exact h3 i z (by omega) hz
      · refine .inr ⟨fun i z hz => ?_, by rw [List.findSome?_cons, e]; exact h2⟩
        cases i with
        | zero => simp at hz; subst hz; exact e
        | succ i => rw [List.getElem?_cons_succ] at hz; exact h1 i z hz
theorem findSome_at {α β : Type} {f : α → Option β} : ∀ {xs : List α} {i : Nat} {x : α} {y : β}, xs[i]? = some x → (∀ (j : Nat) (z : α), j < i → xs[j]? = some z → f z = none) → f x = some y → xs.findSome? f = some y
  | [], _, _, _, h, _, _ => by simp at h
  | a :: xs, 0, x, y, h, _, e => by
    simp at h
    subst h
    rw [List.findSome?_cons, e]
  | a :: xs, i + 1, x, y, h, hn, e => by
    rw [List.getElem?_cons_succ] at h
    rw [List.findSome?_cons, hn 0 a (by omega) rfl]
    exact findSome_at h (fun j z hj hz => hn (j + 1) z (by omega) (by rw [List.getElem?_cons_succ]; exact hz)) e
theorem findSome_no {α β : Type} {f : α → Option β} {xs : List α} (h : ∀ (j : Nat) (z : α), xs[j]? = some z → f z = none) : xs.findSome? f = none := by
  rw [List.findSome?_eq_none_iff]
  intro x hx
  obtain ⟨j, hj⟩ := List.getElem?_of_mem hx
  exact h j x hj
theorem least_of {p : Nat → Bool} : ∀ {n : Nat}, p n = true → ∃ k, k ≤ n ∧ p k = true ∧ ∀ j, j < k → p j = false := by
  intro n
  induction n using Nat.strongRecOn with
  | _ n ih =>
    intro h
    by_cases hx : ∃ j, j < n ∧ p j = true
    · obtain ⟨j, hj, hp⟩ := hx
      obtain ⟨k, h1, h2, h3⟩ := ih j hj hp
      exact ⟨k, by omega, h2, h3⟩
    · refine ⟨n, Nat.le_refl _, h, fun j hj => ?_⟩
      cases q : p j with
      | false => rfl
      | true => exact absurd ⟨j, hj, q⟩ hx
section
variable {T : Tx} {C : CS T} {r r1 r2 : Sls} {R : PyData → Prop} {sts rest body : List Stmt} {st : Stmt} {tg e : Expr} {pos : Pos}
/-- a loop that is gone out of at the first turn where out holds -/
theorem dss_forV {its : List PyData} (out : Nat → Bool) (ri : Nat → Sls) (h0 : Wk r (ri 0)) (hi : DI C tg e (ri 0) its)
    (hb : ∀ i d, (∀ j, j < i → out j = false) → its[i]? = some d → ∃ r2 ix, DG C tg (ri i) d r2 ix ∧ ∃ r3, DSs C body r2 R (if out i = true then [.bot] else r3) ∧ Wk r3 (ri (i + 1)))
    (hrest : (∀ j, j < its.length → out j = false) → DSs C rest (ri its.length) R r1)
    (hs : ∀ (env : Env) (x : Value), foldedSetIterable e env x = pure x := by intro _ _; rfl) : DSs C (.For tg e body [] pos :: rest) r R r1 := by
  by_cases hx : ∃ n, n < its.length ∧ out n = true
  · obtain ⟨n, hn, hp⟩ := hx
    obtain ⟨k, h1, h2, h3⟩ := least_of hp
    refine dss_forO k (by omega) ri h0 hi (fun i d hl hd => ?_) (fun d hd => ?_) (fun e => absurd e (by omega)) hs
    · obtain ⟨r2, ix, g, r3, q, w⟩ := hb i d (fun j hj => h3 j (by omega)) hd
      rw [if_neg (by rw [h3 i hl]; decide)] at q
      exact ⟨r2, ix, g, r3, q, w⟩
    · obtain ⟨r2, ix, g, r3, q, w⟩ := hb k d h3 hd
      rw [if_pos h2] at q
      exact ⟨r2, ix, g, q⟩
  · have hn : ∀ j, j < its.length → out j = false := fun j hj => by
      cases q : out j with
      | false => rfl
      | true => exact absurd ⟨j, hj, q⟩ hx
    refine dss_forO its.length (Nat.le_refl _) ri h0 hi (fun i d hl hd => ?_) (fun d hd => by rw [List.getElem?_eq_none (Nat.le_refl _)] at hd; cases hd) (fun _ => hrest hn) hs
    obtain ⟨r2, ix, g, r3, q, w⟩ := hb i d (fun j hj => hn j (by omega)) hd
    rw [if_neg (by rw [hn i hl]; decide)] at q
    exact ⟨r2, ix, g, r3, q, w⟩
end
end DL

/-! The mirror: each def of the program as a plain function. -/
namespace TW
structure Harbour where
  depths : List Int
  berths : List Int
  tugs : Int
  pilots : Int
  last : Int
structure Ship where
  ready : Int
  length : Int
  draught : Int
  stay : Int
  need : Int
  sea : Int
  lie : Int
abbrev Mv := Int × Int × Int
abbrev Plan := List Mv
def depthAt (h : Harbour) (hour : Int) : Int := h.depths.getD (hour % (h.depths.length : Int)).toNat 0
def noShip : Ship := ⟨0, 0, 0, 0, 0, 0, 0⟩

/-! harbours -/
def ownWrong (h : Harbour) (s : Ship) (m : Mv) : Option String :=
  if m.1 < s.ready ∨ m.2.2 < m.1 + s.stay + 1 then some "early"
  else if h.last < m.2.2 then some "late"
  else if ¬ (0 ≤ m.2.1 ∧ m.2.1 < (h.berths.length : Int)) ∨ h.berths.getD m.2.1.toNat 0 < s.length then some "berth"
  else if depthAt h m.1 < s.draught ∨ depthAt h m.2.2 < s.draught then some "depth"
  else none
def share (a b : Mv) : Bool := decide (a.2.1 = b.2.1) && (decide (a.1 ≤ b.2.2) && decide (b.1 ≤ a.2.2))
def movers (plan : Plan) (hour : Int) : List Nat := (plan.zipIdx.filter fun p => decide (hour = p.1.1) || decide (hour = p.1.2.2)).map (·.2)
def needOf (ships : List Ship) (i : Nat) : Int := (ships.getD i noShip).need
def tugsAt (ships : List Ship) (plan : Plan) (hour : Int) : Int := ((movers plan hour).map (needOf ships)).sum
def wrongAt (h : Harbour) (ships : List Ship) (plan : Plan) (m : Mv) (i : Nat) : Option String :=
  match ownWrong h (ships.getD i noShip) m with
  | some w => some w
  | none => if (plan.take i).any (fun o => share m o) = true then some "taken" else none
/-- a, a + 1, .. below b -/
def rng (a b : Int) : List Int := (List.range (b - a).toNat).map fun i => a + (i : Nat)
def tugsWrong (h : Harbour) (ships : List Ship) (plan : Plan) (hour : Int) : Option (String × Int) := if h.tugs < tugsAt ships plan hour then some ("tugs", hour) else none
def pilotsWrong (h : Harbour) (plan : Plan) (hour : Int) : Option (String × Int) := if h.pilots < ((movers plan hour).length : Int) then some ("pilots", hour) else none
def wrongIn (h : Harbour) (ships : List Ship) (plan : Plan) : Option (String × Int) :=
  match plan.zipIdx.findSome? (fun p => (wrongAt h ships plan p.1 p.2).map fun w => (w, (p.2 : Int))) with
  | some y => some y
  | none => match (rng 0 (h.last + 1)).findSome? (tugsWrong h ships plan) with
    | some y => some y
    | none => (rng 0 (h.last + 1)).findSome? (pilotsWrong h plan)
def waits (ships : List Ship) (plan : Plan) : List (Int × Int) := (ships.zip plan).map fun p => (p.2.1 - p.1.ready, p.2.2.2 - p.2.1 - p.1.stay - 1)
def costOf (ships : List Ship) (plan : Plan) : Int := ((ships.zip (waits ships plan)).map fun p => p.2.1 * p.1.sea + p.2.2 * p.1.lie).sum
def addRange (l : List Int) (a b x : Int) : List Int := (rng a b).foldl (fun l i => l.set i.toNat (l.getD i.toNat 0 + x)) l
def maxOf (l : List Int) : Int := l.foldl max 0
def hourCosts (ships : List Ship) (plan : Plan) : List Int :=
  (ships.zip plan).foldl (fun l p => addRange (addRange l p.1.ready p.2.1 p.1.sea) (p.2.1 + p.1.stay + 1) p.2.2.2 p.1.lie) (List.replicate (1 + maxOf (plan.map fun m => m.2.2)).toNat 0)

/-! search -/
abbrev Place := Int × Int
abbrev State := List Place
def SEA : Place := (-1, 0)
def GONE : Place := (-2, 0)
abbrev Way := Place × Option Int × Bool
def waysOut (h : Harbour) (s : Ship) (p : Place) (hour : Int) : List Way :=
  if p = GONE then [(GONE, none, false)]
  else if p = SEA then
    (SEA, none, false) :: (if s.draught ≤ depthAt h hour ∧ s.ready ≤ hour then (h.berths.zipIdx.filter fun q => decide (s.length ≤ q.1)).map fun q => (((q.2 : Int), hour + s.stay + 1), some (q.2 : Int), true) else [])
  else ((p.1, max p.2 (hour + 1)), some p.1, false) :: (if s.draught ≤ depthAt h hour ∧ p.2 ≤ hour then [(GONE, some p.1, true)] else [])
def priceOfHour (s : Ship) (p later : Place) (hour : Int) : Int :=
  if later = SEA then (if s.ready ≤ hour then s.sea else 0)
  else if (p ≠ SEA ∧ p ≠ GONE) ∧ later ≠ GONE ∧ p.2 ≤ hour then s.lie else 0
structure Row where
  places : State
  cost : Int
  taken : List Int
  tugs : Int
  pilots : Int
def b2 (b : Bool) : Int := if b then 1 else 0
def keptOf (taken : List Int) : Option Int → List Int
  | none => taken
  | some b => taken ++ [b]
def freeOf (taken : List Int) : Option Int → Bool
  | none => true
  | some b => !taken.contains b
def rowOk (h : Harbour) (s : Ship) (w : Way) (r : Row) : Bool := freeOf r.taken w.2.1 && (decide (r.tugs + b2 w.2.2 * s.need ≤ h.tugs) && decide (r.pilots + b2 w.2.2 ≤ h.pilots))
def rowNext (s : Ship) (p : Place) (hour : Int) (w : Way) (r : Row) : Row := ⟨r.places ++ [w.1], r.cost + priceOfHour s p w.1 hour, keptOf r.taken w.2.1, r.tugs + b2 w.2.2 * s.need, r.pilots + b2 w.2.2⟩
def stepRows (h : Harbour) (s : Ship) (p : Place) (hour : Int) (rows : List Row) : List Row :=
  (waysOut h s p hour).flatMap fun w => (rows.filter (rowOk h s w)).map (rowNext s p hour w)
def allRows (h : Harbour) (ships : List Ship) (state : State) (hour : Int) : List Row := (ships.zip state).foldl (fun rows q => stepRows h q.1 q.2 hour rows) [⟨[], 0, [], 0, 0⟩]
def goings (h : Harbour) (ships : List Ship) (state : State) (hour : Int) : List (State × Int) := (allRows h ships state hour).map fun r => (r.places, r.cost)

/-! dicts by states -/
def getA {β : Type} (m : List (State × β)) (k : State) : Option β := (m.find? fun p => decide (p.1 = k)).map (·.2)
def putA {β : Type} (m : List (State × β)) (k : State) (v : β) : List (State × β) :=
  if (m.any fun p => decide (p.1 = k)) = true then m.map (fun p => if p.1 = k then (p.1, v) else p) else m ++ [(k, v)]
def relax1 (m : List (State × Int)) (b : State) (c : Int) : List (State × Int) :=
  match getA m b with
  | none => putA m b c
  | some x => if c < x then putA m b c else m
def relaxOne (c : Int) (gs : List (State × Int)) (m : List (State × Int)) : List (State × Int) := gs.foldl (fun m g => relax1 m g.1 (c + g.2)) m
def relaxAll (h : Harbour) (ships : List Ship) (now : Int) (costs : List (State × Int)) : List (State × Int) := costs.foldl (fun m p => relaxOne p.2 (goings h ships p.1 now) m) []
def doneOf (ships : List Ship) : State := ships.map fun _ => GONE
def seaOf (ships : List Ship) : State := ships.map fun _ => SEA
def costsTo (h : Harbour) (ships : List Ship) (state : State) (hour : Int) : List (State × Int) := (rng hour (h.last + 1)).foldl (fun m now => relaxAll h ships now m) [(state, 0)]
def cheapest (h : Harbour) (ships : List Ship) (state : State) (hour : Int) : Option Int := getA (costsTo h ships state hour) (doneOf ships)
def leastOf (h : Harbour) (ships : List Ship) : Option Int := cheapest h ships (seaOf ships) 0

abbrev Rows := List (State × List (State × Int))
def layerOf (h : Harbour) (ships : List Ship) (hour : Int) (places : List State) : Rows := places.map fun s => (s, goings h ships s hour)
def insK (l : List State) (s : State) : List State := if s ∈ l then l else l ++ [s]
def behindAll (rows : Rows) : List State := rows.foldl (fun l q => q.2.foldl (fun l g => insK l g.1) l) []
/-- the layers behind one another: the rows of each hour, and the places behind the last -/
def waysFrom (h : Harbour) (ships : List Ship) : List Int → List Rows × List State → List Rows × List State
  | [], q => q
  | hour :: hs, (ws, places) => waysFrom h ships hs (ws ++ [layerOf h ships hour places], behindAll (layerOf h ships hour places))
def waysAll (h : Harbour) (ships : List Ship) : List Rows := (waysFrom h ships (rng 0 (h.last + 1)) ([], [seaOf ships])).1
def costsOn (rest : List (State × Int)) (gs : List (State × Int)) : List Int := gs.filterMap fun g => (getA rest g.1).map fun x => g.2 + x
def minOf : List Int → Option Int
  | [] => none
  | x :: xs => some (xs.foldl min x)
def foundOf (rest : List (State × Int)) (rows : Rows) : List (State × Int) :=
  rows.foldl (fun m q => match minOf (costsOn rest q.2) with
    | none => m
    | some x => putA m q.1 x) []
def restTable (h : Harbour) (ships : List Ship) : List (List (State × Int)) := (waysAll h ships).reverse.foldl (fun rests rows => foundOf (rests.getD 0 []) rows :: rests) [[(doneOf ships, 0)]]
def placeBehind (s : Ship) (m : Mv) (hour : Int) : Place := if hour ≤ m.1 then SEA else if m.2.2 < hour then GONE else (m.2.1, max (m.1 + s.stay + 1) hour)
def stateBehind (ships : List Ship) (plan : Plan) (hour : Int) : State := (ships.zip plan).map fun p => placeBehind p.1 p.2 hour

/-! rules -/
def ruleKey (rule : String) (s : Ship) : Int := if rule = "first" then s.ready else if rule = "short" then s.stay else if rule = "dear" then -s.sea else s.draught
def lexLe (a b : Int × Int) : Bool := decide (a.1 < b.1) || (decide (a.1 = b.1) && decide (a.2 ≤ b.2))
def orderRows (ships : List Ship) (rule : String) : List (Int × Int) := ships.zipIdx.map fun p => (ruleKey rule p.1, (p.2 : Int))
def orderOf (ships : List Ship) (rule : String) : List Int := ((orderRows ships rule).mergeSort lexLe).map (·.2)

inductive DMv where
  | sea
  | lie (first berth : Int)
  | gone (first berth out : Int)
structure DSt where
  moves : List DMv
  tugs : Int
  pilots : Int
def canMove (h : Harbour) (ships : List Ship) (d : DSt) (i : Nat) (hour : Int) : Bool :=
  decide ((ships.getD i noShip).draught ≤ depthAt h hour) && (decide ((ships.getD i noShip).need ≤ d.tugs) && decide (0 < d.pilots))
def moveAs (ships : List Ship) (d : DSt) (i : Nat) (m : DMv) : DSt := ⟨d.moves.set i m, d.tugs - (ships.getD i noShip).need, d.pilots - 1⟩
def isLie : DMv → Bool
  | .lie _ _ => true
  | _ => false
def lyingOf (moves : List DMv) : List Nat := (moves.zipIdx.filter fun p => isLie p.1).map (·.2)
def outStep (h : Harbour) (ships : List Ship) (hour : Int) (d : DSt) (i : Nat) : DSt :=
  match d.moves.getD i .sea with
  | .lie first berth => if (decide (first + 1 + (ships.getD i noShip).stay ≤ hour) && canMove h ships d i hour) = true then moveAs ships d i (.gone first berth hour) else d
  | _ => d
def goOut (h : Harbour) (ships : List Ship) (hour : Int) (d : DSt) : DSt := (lyingOf d.moves).foldl (outStep h ships hour) d
def lexLt (a b : Int × Int) : Bool := decide (a.1 < b.1) || (decide (a.1 = b.1) && decide (a.2 < b.2))
def minPair : List (Int × Int) → Option (Int × Int)
  | [] => none
  | x :: xs => some (xs.foldl (fun a b => if lexLt b a = true then b else a) x)
def berthRows (h : Harbour) (s : Ship) (taken : List Int) : List (Int × Int) := (h.berths.zipIdx.filter fun q => decide (s.length ≤ q.1) && !taken.contains (q.2 : Int)).map fun q => (q.1, (q.2 : Int))
def berthFor (h : Harbour) (s : Ship) (taken : List Int) : Option Int := (minPair (berthRows h s taken)).map (·.2)
def isSea : DMv → Bool
  | .sea => true
  | _ => false
def inStep (h : Harbour) (ships : List Ship) (hour : Int) (q : DSt × List Int) (i : Nat) : DSt × List Int :=
  if (isSea (q.1.moves.getD i .sea) && (decide ((ships.getD i noShip).ready ≤ hour) && canMove h ships q.1 i hour)) = true then
    match berthFor h (ships.getD i noShip) q.2 with
    | some b => (moveAs ships q.1 i (.lie hour b), q.2 ++ [b])
    | none => q
  else q
def comeIn (h : Harbour) (ships : List Ship) (order : List Nat) (hour : Int) (q : DSt × List Int) : DSt × List Int := order.foldl (inStep h ships hour) q
def berthOf : DMv → Int
  | .sea => 0
  | .lie _ b => b
  | .gone _ b _ => b
def takenOf (moves : List DMv) : List Int := (lyingOf moves).map fun i => berthOf (moves.getD i .sea)
def hourStep (h : Harbour) (ships : List Ship) (order : List Nat) (d : DSt) (hour : Int) : DSt :=
  (comeIn h ships order hour (goOut h ships hour ⟨d.moves, h.tugs, h.pilots⟩, takenOf d.moves)).1
def dayEnd (h : Harbour) (ships : List Ship) (order : List Nat) : DSt := (rng 0 (h.last + 1)).foldl (hourStep h ships order) ⟨ships.map fun _ => .sea, 0, 0⟩
def goneOf : DMv → Option Mv
  | .gone f b o => some (f, b, o)
  | _ => none
def planBy (h : Harbour) (ships : List Ship) (order : List Nat) : Option Plan :=
  if (dayEnd h ships order).moves.all (fun m => (goneOf m).isSome) = true then some ((dayEnd h ships order).moves.filterMap goneOf) else none
def priceOf (h : Harbour) (ships : List Ship) (order : List Nat) : Option Int :=
  match planBy h ships order with
  | none => none
  | some p => some (costOf ships p - (leastOf h ships).getD 0)
def ordersF : Nat → List Nat → List (List Nat)
  | 0, _ => [[]]
  | _ + 1, [] => [[]]
  | k + 1, n :: ns => (n :: ns).flatMap fun x => (ordersF k ((n :: ns).filter fun y => decide (y ≠ x))).map fun rest => x :: rest
def orderCosts (h : Harbour) (ships : List Ship) : List (Int × List Nat) := (ordersF 4 (List.range ships.length)).filterMap fun o => (planBy h ships o).map fun p => (costOf ships p, o)
def leastFst {β : Type} (l : List (Int × β)) : Int := (minOf (l.map (·.1))).getD 0
def bestOrders (h : Harbour) (ships : List Ship) : List (List Nat) := ((orderCosts h ships).filter fun p => decide (p.1 = leastFst (orderCosts h ships))).map (·.2)
def restAt (rests : List (List (State × Int))) (i : Nat) (s : State) : Int := (getA (rests.getD i []) s).getD 0
/-- where the running sum and the rest pass the least -/
def partFrom (f : Nat → Int) (least : Int) : Nat → Int → List Int → Option Nat
  | _, _, [] => none
  | i, spent, c :: cs => if least < spent + c + f i then some i else partFrom f least (i + 1) (spent + c) cs
def parting (h : Harbour) (ships : List Ship) (plan : Plan) : Option Nat :=
  partFrom (fun i => restAt (restTable h ships) (i + 1) (stateBehind ships plan ((i : Int) + 1))) (restAt (restTable h ships) 0 (stateBehind ships plan 0)) 0 0 (hourCosts ships plan)

/-! a ship alone -/
def isPlan (h : Harbour) (ships : List Ship) (plan : Plan) : Bool := (wrongIn h ships plan).isNone
def plansAlone (h : Harbour) (s : Ship) : List Mv :=
  (rng s.ready (h.last + 1)).flatMap fun f => (rng (f + s.stay + 1) (h.last + 1)).flatMap fun o => (rng 0 (h.berths.length : Int)).flatMap fun b => if isPlan h [s] [(f, b, o)] = true then [(f, b, o)] else []
def soonest (h : Harbour) (s : Ship) : Option Mv := (plansAlone h s).head?

/-! the law's own -/
def lawOrders (n : Nat) : List (List Nat) := [[0], [0, 1], [1, 0], [0, 1, 2], [0, 2, 1], [1, 0, 2], [1, 2, 0], [2, 0, 1], [2, 1, 0]].filter fun o => decide (o.length = n)
def deepOf (h : Harbour) (s : Ship) : List Int := (rng 0 (h.last + 1)).filter fun hr => decide (s.draught ≤ depthAt h hr)
def lawHours (h : Harbour) (s : Ship) : List (Int × Int) :=
  if h.tugs < s.need ∨ maxOf h.berths < s.length then []
  else (deepOf h s).flatMap fun f => ((deepOf h s).filter fun o => decide (s.ready ≤ f) && decide (f + s.stay < o)).map fun o => (f, o)
end TW

/-! The scopes of the defs (written by gen0.py). -/
namespace TW
open PySem PySem.Spec L2 DL
open PyProof.Rows hiding St
def top (i : Nat) : Stmt := PySem.Challenge.pw_tidewaits_k31_whole_rules_are_never_bett.main.body.getD i (.Pass ⟨0, 0, 0, 0⟩)
def mth (i : Nat) : Stmt := inClass (top 22) i
abbrev sDepth : Stmt := top 1
abbrev nDepth : List Str := ["harbour", "hour"]
abbrev pDepth : List Str := ["harbour", "hour"]
abbrev tDepth : List (Str × NameKind) := [("harbour", .local), ("hour", .local), ("len", .globalImplicit)]
theorem scDepth : FnScope nDepth pDepth (defScope sDepth) := ⟨rfl, rfl, rfl, by decide +kernel, rfl, by decide +kernel, by decide +kernel⟩
theorem stDepth : (defScope sDepth).names = tDepth := by rfl
abbrev sWrong1 : Stmt := top 2
abbrev nWrong1 : List Str := ["harbour", "ship", "move", "ready", "length", "draught", "stay", "tugs", "sea", "lie", "first", "berth", "out"]
abbrev pWrong1 : List Str := ["harbour", "ship", "move"]
abbrev tWrong1 : List (Str × NameKind) := [("harbour", .local), ("ship", .local), ("move", .local), ("ready", .local), ("length", .local), ("draught", .local), ("stay", .local), ("tugs", .local), ("sea", .local), ("lie", .local), ("first", .local), ("berth", .local), ("out", .local), ("len", .globalImplicit), ("depth_at", .globalImplicit)]
theorem scWrong1 : FnScope nWrong1 pWrong1 (defScope sWrong1) := ⟨rfl, rfl, rfl, by decide +kernel, rfl, by decide +kernel, by decide +kernel⟩
theorem stWrong1 : (defScope sWrong1).names = tWrong1 := by rfl
abbrev sShare : Stmt := top 3
abbrev nShare : List Str := ["one", "other"]
abbrev pShare : List Str := ["one", "other"]
abbrev tShare : List (Str × NameKind) := [("one", .local), ("other", .local)]
theorem scShare : FnScope nShare pShare (defScope sShare) := ⟨rfl, rfl, rfl, by decide +kernel, rfl, by decide +kernel, by decide +kernel⟩
theorem stShare : (defScope sShare).names = tShare := by rfl
abbrev sMovers : Stmt := top 4
abbrev nMovers : List Str := ["plan", "hour", "name", "first", "berth", "out"]
abbrev pMovers : List Str := ["plan", "hour"]
abbrev tMovers : List (Str × NameKind) := [("plan", .local), ("hour", .cell), ("enumerate", .globalImplicit)]
theorem scMovers : FnScope nMovers pMovers (defScope sMovers) := ⟨rfl, rfl, rfl, by decide +kernel, rfl, by decide +kernel, by decide +kernel⟩
theorem stMovers : (defScope sMovers).names = tMovers := by rfl
abbrev sWrongIn : Stmt := top 5
abbrev nWrongIn : List Str := ["harbour", "ships", "plan", "name", "move", "word", "hour", "other"]
abbrev pWrongIn : List Str := ["harbour", "ships", "plan"]
abbrev tWrongIn : List (Str × NameKind) := [("harbour", .local), ("ships", .cell), ("plan", .local), ("name", .local), ("move", .cell), ("word", .local), ("hour", .local), ("enumerate", .globalImplicit), ("own_wrong", .globalImplicit), ("any", .globalImplicit), ("range", .globalImplicit), ("sum", .globalImplicit), ("movers", .globalImplicit), ("len", .globalImplicit)]
theorem scWrongIn : FnScope nWrongIn pWrongIn (defScope sWrongIn) := ⟨rfl, rfl, rfl, by decide +kernel, rfl, by decide +kernel, by decide +kernel⟩
theorem stWrongIn : (defScope sWrongIn).names = tWrongIn := by rfl
abbrev sIsPlan : Stmt := top 6
abbrev nIsPlan : List Str := ["harbour", "ships", "plan"]
abbrev pIsPlan : List Str := ["harbour", "ships", "plan"]
abbrev tIsPlan : List (Str × NameKind) := [("harbour", .local), ("ships", .local), ("plan", .local), ("wrong_in", .globalImplicit)]
theorem scIsPlan : FnScope nIsPlan pIsPlan (defScope sIsPlan) := ⟨rfl, rfl, rfl, by decide +kernel, rfl, by decide +kernel, by decide +kernel⟩
theorem stIsPlan : (defScope sIsPlan).names = tIsPlan := by rfl
abbrev sWaits : Stmt := top 7
abbrev nWaits : List Str := ["ships", "plan", "ship", "first", "berth", "out"]
abbrev pWaits : List Str := ["ships", "plan"]
abbrev tWaits : List (Str × NameKind) := [("ships", .local), ("plan", .local), ("zip", .globalImplicit)]
theorem scWaits : FnScope nWaits pWaits (defScope sWaits) := ⟨rfl, rfl, rfl, by decide +kernel, rfl, by decide +kernel, by decide +kernel⟩
theorem stWaits : (defScope sWaits).names = tWaits := by rfl
abbrev sCost : Stmt := top 8
abbrev nCost : List Str := ["ships", "plan", "ship", "sea", "lying"]
abbrev pCost : List Str := ["ships", "plan"]
abbrev tCost : List (Str × NameKind) := [("ships", .local), ("plan", .local), ("sum", .globalImplicit), ("zip", .globalImplicit), ("waits", .globalImplicit)]
theorem scCost : FnScope nCost pCost (defScope sCost) := ⟨rfl, rfl, rfl, by decide +kernel, rfl, by decide +kernel, by decide +kernel⟩
theorem stCost : (defScope sCost).names = tCost := by rfl
abbrev sHCosts : Stmt := top 9
abbrev nHCosts : List Str := ["ships", "plan", "first", "berth", "out", "found", "ship", "hour"]
abbrev pHCosts : List Str := ["ships", "plan"]
abbrev tHCosts : List (Str × NameKind) := [("ships", .local), ("plan", .local), ("first", .local), ("berth", .local), ("out", .local), ("found", .local), ("ship", .local), ("hour", .local), ("max", .globalImplicit), ("zip", .globalImplicit), ("range", .globalImplicit)]
theorem scHCosts : FnScope nHCosts pHCosts (defScope sHCosts) := ⟨rfl, rfl, rfl, by decide +kernel, rfl, by decide +kernel, by decide +kernel⟩
theorem stHCosts : (defScope sHCosts).names = tHCosts := by rfl
abbrev sWays : Stmt := top 13
abbrev nWays : List Str := ["harbour", "ship", "place", "hour", "ready", "length", "draught", "stay", "_", "deep", "found", "berth", "room"]
abbrev pWays : List Str := ["harbour", "ship", "place", "hour"]
abbrev tWays : List (Str × NameKind) := [("harbour", .local), ("ship", .local), ("place", .local), ("hour", .local), ("ready", .local), ("length", .local), ("draught", .local), ("stay", .local), ("_", .local), ("deep", .local), ("found", .local), ("berth", .local), ("room", .local), ("GONE", .globalImplicit), ("depth_at", .globalImplicit), ("AT_SEA", .globalImplicit), ("enumerate", .globalImplicit), ("max", .globalImplicit)]
theorem scWays : FnScope nWays pWays (defScope sWays) := ⟨rfl, rfl, rfl, by decide +kernel, rfl, by decide +kernel, by decide +kernel⟩
theorem stWays : (defScope sWays).names = tWays := by rfl
abbrev sPHour : Stmt := top 14
abbrev nPHour : List Str := ["ship", "place", "later", "hour"]
abbrev pPHour : List Str := ["ship", "place", "later", "hour"]
abbrev tPHour : List (Str × NameKind) := [("ship", .local), ("place", .local), ("later", .local), ("hour", .local), ("AT_SEA", .globalImplicit), ("GONE", .globalImplicit)]
theorem scPHour : FnScope nPHour pPHour (defScope sPHour) := ⟨rfl, rfl, rfl, by decide +kernel, rfl, by decide +kernel, by decide +kernel⟩
theorem stPHour : (defScope sPHour).names = tPHour := by rfl
abbrev sGoings : Stmt := top 15
abbrev nGoings : List Str := ["harbour", "ships", "state", "hour", "rows", "ship", "place", "longer", "later", "berth", "moves", "price", "places", "cost", "taken", "tugs", "pilots", "more", "kept", "_"]
abbrev pGoings : List Str := ["harbour", "ships", "state", "hour"]
abbrev tGoings : List (Str × NameKind) := [("harbour", .local), ("ships", .local), ("state", .local), ("hour", .local), ("rows", .local), ("ship", .local), ("place", .local), ("longer", .local), ("later", .local), ("berth", .local), ("moves", .local), ("price", .local), ("places", .local), ("cost", .local), ("taken", .local), ("tugs", .local), ("pilots", .local), ("more", .local), ("kept", .local), ("zip", .globalImplicit), ("ways_out", .globalImplicit), ("price_of_hour", .globalImplicit), ("int", .globalImplicit)]
theorem scGoings : FnScope nGoings pGoings (defScope sGoings) := ⟨rfl, rfl, rfl, by decide +kernel, rfl, by decide +kernel, by decide +kernel⟩
theorem stGoings : (defScope sGoings).names = tGoings := by rfl
abbrev sCheap : Stmt := top 16
abbrev nCheap : List Str := ["harbour", "ships", "state", "hour", "costs", "done", "now", "later", "places", "cost", "behind", "price", "_"]
abbrev pCheap : List Str := ["harbour", "ships", "state", "hour"]
abbrev tCheap : List (Str × NameKind) := [("harbour", .local), ("ships", .local), ("state", .local), ("hour", .local), ("costs", .local), ("done", .local), ("now", .local), ("later", .local), ("places", .local), ("cost", .local), ("behind", .local), ("price", .local), ("tuple", .globalImplicit), ("range", .globalImplicit), ("goings_on", .globalImplicit)]
theorem scCheap : FnScope nCheap pCheap (defScope sCheap) := ⟨rfl, rfl, rfl, by decide +kernel, rfl, by decide +kernel, by decide +kernel⟩
theorem stCheap : (defScope sCheap).names = tCheap := by rfl
abbrev sLeast : Stmt := top 17
abbrev nLeast : List Str := ["harbour", "ships", "_"]
abbrev pLeast : List Str := ["harbour", "ships"]
abbrev tLeast : List (Str × NameKind) := [("harbour", .local), ("ships", .local), ("cheapest_to_end", .globalImplicit), ("tuple", .globalImplicit)]
theorem scLeast : FnScope nLeast pLeast (defScope sLeast) := ⟨rfl, rfl, rfl, by decide +kernel, rfl, by decide +kernel, by decide +kernel⟩
theorem stLeast : (defScope sLeast).names = tLeast := by rfl
abbrev sRests : Stmt := top 18
abbrev nRests : List Str := ["harbour", "ships", "ways", "_", "places", "hour", "state", "rows", "options", "behind", "rests", "found", "costs", "price"]
abbrev pRests : List Str := ["harbour", "ships"]
abbrev tRests : List (Str × NameKind) := [("harbour", .cell), ("ships", .cell), ("ways", .local), ("_", .local), ("places", .local), ("hour", .cell), ("state", .local), ("rows", .local), ("options", .local), ("behind", .local), ("rests", .cell), ("found", .local), ("costs", .local), ("tuple", .globalImplicit), ("range", .globalImplicit), ("min", .globalImplicit)]
theorem scRests : FnScope nRests pRests (defScope sRests) := ⟨rfl, rfl, rfl, by decide +kernel, rfl, by decide +kernel, by decide +kernel⟩
theorem stRests : (defScope sRests).names = tRests := by rfl
abbrev sBehind : Stmt := top 19
abbrev nBehind : List Str := ["ships", "plan", "hour", "found", "ship", "first", "berth", "out"]
abbrev pBehind : List Str := ["ships", "plan", "hour"]
abbrev tBehind : List (Str × NameKind) := [("ships", .local), ("plan", .local), ("hour", .local), ("found", .local), ("ship", .local), ("first", .local), ("berth", .local), ("out", .local), ("zip", .globalImplicit), ("AT_SEA", .globalImplicit), ("GONE", .globalImplicit), ("max", .globalImplicit), ("tuple", .globalImplicit)]
theorem scBehind : FnScope nBehind pBehind (defScope sBehind) := ⟨rfl, rfl, rfl, by decide +kernel, rfl, by decide +kernel, by decide +kernel⟩
theorem stBehind : (defScope sBehind).names = tBehind := by rfl
abbrev sOrderOf : Stmt := top 21
abbrev nOrderOf : List Str := ["ships", "rule", "rows", "name", "ready", "_", "draught", "stay", "sea", "key"]
abbrev pOrderOf : List Str := ["ships", "rule"]
abbrev tOrderOf : List (Str × NameKind) := [("ships", .local), ("rule", .local), ("rows", .local), ("name", .local), ("ready", .local), ("_", .local), ("draught", .local), ("stay", .local), ("sea", .local), ("key", .local), ("enumerate", .globalImplicit), ("sorted", .globalImplicit)]
theorem scOrderOf : FnScope nOrderOf pOrderOf (defScope sOrderOf) := ⟨rfl, rfl, rfl, by decide +kernel, rfl, by decide +kernel, by decide +kernel⟩
theorem stOrderOf : (defScope sOrderOf).names = tOrderOf := by rfl
abbrev sPlanBy : Stmt := top 23
abbrev nPlanBy : List Str := ["harbour", "ships", "order", "day", "hour", "_", "out"]
abbrev pPlanBy : List Str := ["harbour", "ships", "order"]
abbrev tPlanBy : List (Str × NameKind) := [("harbour", .local), ("ships", .local), ("order", .local), ("day", .local), ("hour", .local), ("Day", .globalImplicit), ("range", .globalImplicit), ("any", .globalImplicit)]
theorem scPlanBy : FnScope nPlanBy pPlanBy (defScope sPlanBy) := ⟨rfl, rfl, rfl, by decide +kernel, rfl, by decide +kernel, by decide +kernel⟩
theorem stPlanBy : (defScope sPlanBy).names = tPlanBy := by rfl
abbrev sPriceOf : Stmt := top 24
abbrev nPriceOf : List Str := ["harbour", "ships", "order", "plan"]
abbrev pPriceOf : List Str := ["harbour", "ships", "order"]
abbrev tPriceOf : List (Str × NameKind) := [("harbour", .local), ("ships", .local), ("order", .local), ("plan", .local), ("plan_by", .globalImplicit), ("cost_of", .globalImplicit), ("least_of", .globalImplicit)]
theorem scPriceOf : FnScope nPriceOf pPriceOf (defScope sPriceOf) := ⟨rfl, rfl, rfl, by decide +kernel, rfl, by decide +kernel, by decide +kernel⟩
theorem stPriceOf : (defScope sPriceOf).names = tPriceOf := by rfl
abbrev sOrders : Stmt := top 25
abbrev nOrders : List Str := ["names", "name", "rest", "other"]
abbrev pOrders : List Str := ["names"]
abbrev tOrders : List (Str × NameKind) := [("names", .cell)]
theorem scOrders : FnScope nOrders pOrders (defScope sOrders) := ⟨rfl, rfl, rfl, by decide +kernel, rfl, by decide +kernel, by decide +kernel⟩
theorem stOrders : (defScope sOrders).names = tOrders := by rfl
abbrev sBest : Stmt := top 26
abbrev nBest : List Str := ["harbour", "ships", "rows", "order", "plan", "cost"]
abbrev pBest : List Str := ["harbour", "ships"]
abbrev tBest : List (Str × NameKind) := [("harbour", .local), ("ships", .local), ("rows", .cell), ("order", .local), ("plan", .local), ("orders", .globalImplicit), ("list", .globalImplicit), ("range", .globalImplicit), ("len", .globalImplicit), ("plan_by", .globalImplicit), ("cost_of", .globalImplicit)]
theorem scBest : FnScope nBest pBest (defScope sBest) := ⟨rfl, rfl, rfl, by decide +kernel, rfl, by decide +kernel, by decide +kernel⟩
theorem stBest : (defScope sBest).names = tBest := by rfl
abbrev sParting : Stmt := top 27
abbrev nParting : List Str := ["harbour", "ships", "plan", "rests", "least", "spent", "hour", "cost"]
abbrev pParting : List Str := ["harbour", "ships", "plan"]
abbrev tParting : List (Str × NameKind) := [("harbour", .local), ("ships", .local), ("plan", .local), ("rests", .local), ("least", .local), ("spent", .local), ("hour", .local), ("cost", .local), ("rest_table", .globalImplicit), ("state_behind", .globalImplicit), ("enumerate", .globalImplicit), ("hour_costs", .globalImplicit)]
theorem scParting : FnScope nParting pParting (defScope sParting) := ⟨rfl, rfl, rfl, by decide +kernel, rfl, by decide +kernel, by decide +kernel⟩
theorem stParting : (defScope sParting).names = tParting := by rfl
abbrev sAlone : Stmt := top 29
abbrev nAlone : List Str := ["harbour", "ship", "found", "first", "out", "berth"]
abbrev pAlone : List Str := ["harbour", "ship"]
abbrev tAlone : List (Str × NameKind) := [("harbour", .local), ("ship", .local), ("found", .local), ("first", .local), ("out", .local), ("berth", .local), ("range", .globalImplicit), ("len", .globalImplicit), ("is_plan", .globalImplicit)]
theorem scAlone : FnScope nAlone pAlone (defScope sAlone) := ⟨rfl, rfl, rfl, by decide +kernel, rfl, by decide +kernel, by decide +kernel⟩
theorem stAlone : (defScope sAlone).names = tAlone := by rfl
abbrev sSoon : Stmt := top 30
abbrev nSoon : List Str := ["harbour", "ship", "found"]
abbrev pSoon : List Str := ["harbour", "ship"]
abbrev tSoon : List (Str × NameKind) := [("harbour", .local), ("ship", .local), ("found", .local), ("plans_alone", .globalImplicit)]
theorem scSoon : FnScope nSoon pSoon (defScope sSoon) := ⟨rfl, rfl, rfl, by decide +kernel, rfl, by decide +kernel, by decide +kernel⟩
theorem stSoon : (defScope sSoon).names = tSoon := by rfl
abbrev sLDraws : Stmt := top 32
abbrev nLDraws : List Str := ["_law_script", "_law_count", "_law_rests", "_law_draws_here", "_law_k", "_law_value", "_law_at", "_law_mixed", "_law_cell"]
abbrev pLDraws : List Str := ["_law_script", "_law_count"]
abbrev tLDraws : List (Str × NameKind) := [("_law_script", .local), ("_law_count", .local), ("_law_rests", .local), ("_law_draws_here", .local), ("_law_k", .local), ("_law_value", .local), ("_law_at", .local), ("_law_mixed", .local), ("range", .globalImplicit), ("len", .globalImplicit), ("int", .globalImplicit)]
theorem scLDraws : FnScope nLDraws pLDraws (defScope sLDraws) := ⟨rfl, rfl, rfl, by decide +kernel, rfl, by decide +kernel, by decide +kernel⟩
theorem stLDraws : (defScope sLDraws).names = tLDraws := by rfl
abbrev sLWorld : Stmt := top 33
abbrev nLWorld : List Str := ["_law_draws_here", "_law_k", "_law_depths", "_law_berths", "_law_harbour", "_law_ships", "_law_part", "_law_own"]
abbrev pLWorld : List Str := ["_law_draws_here"]
abbrev tLWorld : List (Str × NameKind) := [("_law_draws_here", .cell), ("_law_k", .local), ("_law_depths", .local), ("_law_berths", .local), ("_law_harbour", .local), ("_law_ships", .local), ("_law_part", .local), ("_law_own", .local), ("range", .globalImplicit), ("int", .globalImplicit), ("tuple", .globalImplicit)]
theorem scLWorld : FnScope nLWorld pLWorld (defScope sLWorld) := ⟨rfl, rfl, rfl, by decide +kernel, rfl, by decide +kernel, by decide +kernel⟩
theorem stLWorld : (defScope sLWorld).names = tLWorld := by rfl
abbrev sLOrders : Stmt := top 34
abbrev nLOrders : List Str := ["_law_many", "_law_rows", "_law_order"]
abbrev pLOrders : List Str := ["_law_many"]
abbrev tLOrders : List (Str × NameKind) := [("_law_many", .cell), ("_law_rows", .local)]
theorem scLOrders : FnScope nLOrders pLOrders (defScope sLOrders) := ⟨rfl, rfl, rfl, by decide +kernel, rfl, by decide +kernel, by decide +kernel⟩
theorem stLOrders : (defScope sLOrders).names = tLOrders := by rfl
abbrev sLHours : Stmt := top 35
abbrev nLHours : List Str := ["_law_harbour", "_law_ship", "_law_depths", "_law_berths", "_law_tugs", "_law_pilots", "_law_last", "_law_ready", "_law_length", "_law_draught", "_law_stay", "_law_needs", "_law_sea", "_law_lie", "_law_deep", "_law_found", "_law_first", "_law_hour", "_law_out"]
abbrev pLHours : List Str := ["_law_harbour", "_law_ship"]
abbrev tLHours : List (Str × NameKind) := [("_law_harbour", .local), ("_law_ship", .local), ("_law_depths", .cell), ("_law_berths", .local), ("_law_tugs", .local), ("_law_pilots", .local), ("_law_last", .local), ("_law_ready", .cell), ("_law_length", .local), ("_law_draught", .cell), ("_law_stay", .cell), ("_law_needs", .local), ("_law_sea", .local), ("_law_lie", .local), ("_law_deep", .local), ("_law_found", .local), ("_law_first", .cell), ("range", .globalImplicit), ("max", .globalImplicit)]
theorem scLHours : FnScope nLHours pLHours (defScope sLHours) := ⟨rfl, rfl, rfl, by decide +kernel, rfl, by decide +kernel, by decide +kernel⟩
theorem stLHours : (defScope sLHours).names = tLHours := by rfl
abbrev sLaw : Stmt := top 36
abbrev nLaw : List Str := ["_law_script", "_law_draws_here", "_law_harbour", "_law_ships", "_law_prices", "_law_best", "_law_order", "_law_plan", "_law_price", "_law_word", "_law_ship", "_law_alone", "_law_told", "_law_hours_here"]
abbrev pLaw : List Str := ["_law_script"]
abbrev tLaw : List (Str × NameKind) := [("_law_script", .local), ("_law_draws_here", .local), ("_law_harbour", .local), ("_law_ships", .local), ("_law_prices", .cell), ("_law_best", .local), ("_law_order", .local), ("_law_plan", .local), ("_law_price", .local), ("_law_word", .local), ("_law_ship", .local), ("_law_alone", .local), ("_law_told", .local), ("_law_hours_here", .local), ("_law_draws", .globalImplicit), ("_law_world", .globalImplicit), ("len", .globalImplicit), ("min", .globalImplicit), ("best_orders", .globalImplicit), ("_law_orders", .globalImplicit), ("plan_by", .globalImplicit), ("price_of", .globalImplicit), ("wrong_in", .globalImplicit), ("parting", .globalImplicit), ("sorted", .globalImplicit), ("order_of", .globalImplicit), ("list", .globalImplicit), ("range", .globalImplicit), ("soonest", .globalImplicit), ("_law_hours", .globalImplicit), ("cost_of", .globalImplicit)]
theorem scLaw : FnScope nLaw pLaw (defScope sLaw) := ⟨rfl, rfl, rfl, by decide +kernel, rfl, by decide +kernel, by decide +kernel⟩
theorem stLaw : (defScope sLaw).names = tLaw := by rfl
abbrev sDInit : Stmt := mth 0
abbrev nDInit : List Str := ["self", "harbour", "ships", "_"]
abbrev pDInit : List Str := ["self", "harbour", "ships"]
abbrev tDInit : List (Str × NameKind) := [("self", .local), ("harbour", .local), ("ships", .local)]
theorem scDInit : FnScope nDInit pDInit (defScope sDInit) := ⟨rfl, rfl, rfl, by decide +kernel, rfl, by decide +kernel, by decide +kernel⟩
theorem stDInit : (defScope sDInit).names = tDInit := by rfl
abbrev sDCan : Stmt := mth 1
abbrev nDCan : List Str := ["self", "name", "hour", "ship"]
abbrev pDCan : List Str := ["self", "name", "hour"]
abbrev tDCan : List (Str × NameKind) := [("self", .local), ("name", .local), ("hour", .local), ("ship", .local), ("depth_at", .globalImplicit)]
theorem scDCan : FnScope nDCan pDCan (defScope sDCan) := ⟨rfl, rfl, rfl, by decide +kernel, rfl, by decide +kernel, by decide +kernel⟩
theorem stDCan : (defScope sDCan).names = tDCan := by rfl
abbrev sDSpend : Stmt := mth 2
abbrev nDSpend : List Str := ["self", "name"]
abbrev pDSpend : List Str := ["self", "name"]
abbrev tDSpend : List (Str × NameKind) := [("self", .local), ("name", .local)]
theorem scDSpend : FnScope nDSpend pDSpend (defScope sDSpend) := ⟨rfl, rfl, rfl, by decide +kernel, rfl, by decide +kernel, by decide +kernel⟩
theorem stDSpend : (defScope sDSpend).names = tDSpend := by rfl
abbrev sDLying : Stmt := mth 3
abbrev nDLying : List Str := ["self", "name", "first", "_", "out"]
abbrev pDLying : List Str := ["self"]
abbrev tDLying : List (Str × NameKind) := [("self", .local), ("enumerate", .globalImplicit)]
theorem scDLying : FnScope nDLying pDLying (defScope sDLying) := ⟨rfl, rfl, rfl, by decide +kernel, rfl, by decide +kernel, by decide +kernel⟩
theorem stDLying : (defScope sDLying).names = tDLying := by rfl
abbrev sDOut : Stmt := mth 4
abbrev nDOut : List Str := ["self", "hour", "name", "first", "berth", "_"]
abbrev pDOut : List Str := ["self", "hour"]
abbrev tDOut : List (Str × NameKind) := [("self", .local), ("hour", .local), ("name", .local), ("first", .local), ("berth", .local), ("_", .local)]
theorem scDOut : FnScope nDOut pDOut (defScope sDOut) := ⟨rfl, rfl, rfl, by decide +kernel, rfl, by decide +kernel, by decide +kernel⟩
theorem stDOut : (defScope sDOut).names = tDOut := by rfl
abbrev sDBerth : Stmt := mth 5
abbrev nDBerth : List Str := ["self", "name", "taken", "rows", "berth", "room"]
abbrev pDBerth : List Str := ["self", "name", "taken"]
abbrev tDBerth : List (Str × NameKind) := [("self", .local), ("name", .local), ("taken", .local), ("rows", .local), ("berth", .local), ("room", .local), ("enumerate", .globalImplicit), ("min", .globalImplicit)]
theorem scDBerth : FnScope nDBerth pDBerth (defScope sDBerth) := ⟨rfl, rfl, rfl, by decide +kernel, rfl, by decide +kernel, by decide +kernel⟩
theorem stDBerth : (defScope sDBerth).names = tDBerth := by rfl
abbrev sDIn : Stmt := mth 6
abbrev nDIn : List Str := ["self", "order", "hour", "taken", "name", "berth"]
abbrev pDIn : List Str := ["self", "order", "hour", "taken"]
abbrev tDIn : List (Str × NameKind) := [("self", .local), ("order", .local), ("hour", .local), ("taken", .local), ("name", .local), ("berth", .local)]
theorem scDIn : FnScope nDIn pDIn (defScope sDIn) := ⟨rfl, rfl, rfl, by decide +kernel, rfl, by decide +kernel, by decide +kernel⟩
theorem stDIn : (defScope sDIn).names = tDIn := by rfl
abbrev sDHour : Stmt := mth 7
abbrev nDHour : List Str := ["self", "order", "hour", "taken", "name"]
abbrev pDHour : List Str := ["self", "order", "hour"]
abbrev tDHour : List (Str × NameKind) := [("self", .cell), ("order", .local), ("hour", .local), ("taken", .local)]
theorem scDHour : FnScope nDHour pDHour (defScope sDHour) := ⟨rfl, rfl, rfl, by decide +kernel, rfl, by decide +kernel, by decide +kernel⟩
theorem stDHour : (defScope sDHour).names = tDHour := by rfl
end TW

/-! Walks: harbours. -/
namespace TW
open PySem PySem.Spec L2 DL
open PyProof.Rows hiding St
def encIs (ns : List Int) : PyData := .list (ns.map PyData.int)
def encH (h : Harbour) : PyData := .tuple [encIs h.depths, encIs h.berths, .int h.tugs, .int h.pilots, .int h.last]
def encS (s : Ship) : PyData := .tuple [.int s.ready, .int s.length, .int s.draught, .int s.stay, .int s.need, .int s.sea, .int s.lie]
def encM (m : Mv) : PyData := .tuple [.int m.1, .int m.2.1, .int m.2.2]
def encSs (ss : List Ship) : PyData := .list (ss.map encS)
def encPl (p : Plan) : PyData := .list (p.map encM)
def encW : Option String → PyData
  | none => .none
  | some w => .str (Str.ofString w)
structure HOk (h : Harbour) : Prop where
  d0 : h.depths ≠ []
  dl : h.depths.length ≤ 100
  b0 : h.berths ≠ []
  bl : h.berths.length ≤ 2
  l0 : 0 ≤ h.last
  l1 : h.last ≤ 40
structure SOk (s : Ship) : Prop where
  r0 : 0 ≤ s.ready
  r1 : s.ready ≤ 60
  t0 : 1 ≤ s.stay
  t1 : s.stay ≤ 4
  n0 : 0 ≤ s.need
  s0 : 0 ≤ s.sea
  s1 : s.sea ≤ 1000
  i0 : 0 ≤ s.lie
  i1 : s.lie ≤ 1000
section
variable {T : Tx} {C : CS T} {r r1 r2 : Sls} {R : PyData → Prop} {c e : Expr} {sts rest body : List Stmt} {pos : Pos} {d : PyData}
theorem dss_if2 {x : Bool} (hc : DT C c r x) (ha : x = true → ∃ r2, DSs C sts r R r2 ∧ DSs C rest r2 R r1) (hb : x = false → ∃ r2, DSs C body r R r2 ∧ DSs C rest r2 R r1) : DSs C (.If c sts body pos :: rest) r R r1 := by
  cases x with
  | true =>
    obtain ⟨r2, h1, h2⟩ := ha rfl
    exact dss_cons (ds_if hc (fun _ => h1) (fun h => nomatch h)) h2
  | false =>
    obtain ⟨r2, h1, h2⟩ := hb rfl
    exact dss_cons (ds_if hc (fun h => nomatch h) (fun _ => h1)) h2
theorem retB (h : DE C e r d) (hR : R d) : ∃ r2, DSs C [.Return (some e) pos] r R r2 ∧ DSs C rest r2 R r1 := ⟨[.bot], dss_one (ds_ret h hR), dss_bot⟩
theorem nilB (h : DSs C rest r R r1) : ∃ r2, DSs C [] r R r2 ∧ DSs C rest r2 R r1 := ⟨r, dss_nil, h⟩
end
theorem enumD_map {α : Type} (f : α → PyData) (xs : List α) : enumD (xs.map f) = xs.zipIdx.map fun p => .tuple [.int (p.2 : Nat), f p.1] := by
  unfold enumD
  apply List.ext_getElem?
  intro i
  simp only [List.getElem?_mapIdx, List.getElem?_map, List.getElem?_zipIdx, Option.map_map]
  congr 1
  funext x
  simp
theorem zipD_map {α β : Type} (f : α → PyData) (g : β → PyData) (xs : List α) (ys : List β) : zipD (xs.map f) (ys.map g) = (xs.zip ys).map fun p => .tuple [f p.1, g p.2] := by
  unfold zipD
  rw [List.zip_eq_zipWith, List.map_zipWith, List.zipWith_map]
theorem rngD_rng (m n : Int) : rngD m n = (rng m n).map PyData.int := by
  unfold rngD rng
  rw [List.map_map]
  rfl
theorem rng_get {a b : Int} {i : Nat} {x : Int} (h : (rng a b)[i]? = some x) : x = a + (i : Nat) ∧ a + (i : Nat) < b := by
  unfold rng at h
  rw [List.getElem?_map] at h
  obtain ⟨j, h1, rfl⟩ := Option.map_eq_some_iff.mp h
  have h2 := List.getElem?_eq_some_iff.mp h1
  obtain ⟨h2, h3⟩ := h2
  rw [List.getElem_range] at h3
  rw [List.length_range] at h2
  subst h3
  exact ⟨rfl, by omega⟩
theorem rng_len (a b : Int) : (rng a b).length = (b - a).toNat := by unfold rng; simp
section
variable {T : Tx} (B : Blt T)
include B
def spDepth : DSpec := fun ds d => ∃ h hour, HOk h ∧ ds = [encH h, .int hour] ∧ d = .int (depthAt h hour)
theorem F_depth (D : DefAt T "depth_at" sDepth pDepth) : DFn T 1 "depth_at" spDepth := by
  refine dfn_of (N := nDepth) D scDepth stDepth (fun ds d h => ?_) (fun ds d h Z ok => ?_)
  · obtain ⟨h, hour, _, rfl, rfl⟩ := h; rfl
  · obtain ⟨h, hour, hk, rfl, rfl⟩ := h
    have hp : (0 : Int) < (h.depths.length : Int) := by
      have := List.length_pos_iff.mpr hk.d0
      omega
    refine dss_one (ds_ret (de_ixL (de_ixT (de_var 0 rfl) de_int (at_nat (by decide) rfl)) (de_mod (de_var 1 rfl) (de_len B (de_ixT (de_var 0 rfl) de_int (at_nat (by decide) rfl))) (by simpa using hp)) ?_) rfl)
    have h1 := Int.emod_nonneg hour (show (h.depths.length : Int) ≠ 0 by omega)
    have h2 := Int.emod_lt_of_pos hour hp
    rw [List.length_map]
    refine at_nat h1 ?_
    rw [List.getElem?_map, List.getElem?_eq_getElem (by omega)]
    unfold depthAt
    rw [List.getD_eq_getElem?_getD, List.getElem?_eq_getElem (by omega)]
    rfl
def spWrong1 : DSpec := fun ds d => ∃ h s m, HOk h ∧ ds = [encH h, encS s, encM m] ∧ d = encW (ownWrong h s m)
omit B in
theorem get_nat {xs : List Int} {i : Int} (h0 : 0 ≤ i) (h1 : i < (xs.length : Int)) : (xs.map PyData.int)[i.toNat]? = some (.int (xs.getD i.toNat 0)) := by
  rw [List.getElem?_map, List.getElem?_eq_getElem (by omega), List.getD_eq_getElem?_getD, List.getElem?_eq_getElem (by omega)]
  rfl
theorem F_wrong1 (F1 : DFn T 1 "depth_at" spDepth) (D : DefAt T "own_wrong" sWrong1 pWrong1) : DFn T 2 "own_wrong" spWrong1 := by
  refine dfn_of (N := nWrong1) D scWrong1 stWrong1 (fun ds d h => ?_) (fun ds d h Z ok => ?_)
  · obtain ⟨h, s, m, _, rfl, rfl⟩ := h; rfl
  · obtain ⟨h, s, m, hk, rfl, rfl⟩ := h
    refine dss_cons (ds_asg (de_var 1 rfl) (dg_tup (dgs_cons (dg_name 3) (dgs_cons (dg_name 4) (dgs_cons (dg_name 5) (dgs_cons (dg_name 6) (dgs_cons (dg_name 7) (dgs_cons (dg_name 8) (dgs_cons (dg_name 9) dgs_nil))))))))) ?_
    refine dss_cons (ds_asg (de_var 2 rfl) (dg_tup (dgs_cons (dg_name 10) (dgs_cons (dg_name 11) (dgs_cons (dg_name 12) dgs_nil))))) ?_
    refine dss_at [.dat (encH h), .dat (encS s), .dat (encM m), dI s.ready, dI s.length, dI s.draught, dI s.stay, dI s.need, dI s.sea, dI s.lie, dI m.1, dI m.2.1, dI m.2.2] ?_
    refine dss_if2 (dw_or (dt_cmp (de_lt (de_var 10 rfl) (de_var 3 rfl))) (fun _ => dw_or1 (dt_cmp (de_lt (de_var 12 rfl) (de_add (de_add (de_var 10 rfl) (de_var 6 rfl)) de_int))))).t (fun h1 => retB de_str ?_) (fun h1 => nilB ?_)
    · have h1' : m.1 < s.ready ∨ m.2.2 < m.1 + s.stay + 1 := by simpa using h1
      unfold ownWrong
      rw [if_pos h1']
      rfl
    have h1' : ¬ (m.1 < s.ready ∨ m.2.2 < m.1 + s.stay + 1) := by simpa using h1
    refine dss_if2 (dt_cmp (de_gt (de_var 12 rfl) (de_ixT (de_var 0 rfl) de_int (at_nat (by decide) rfl)))) (fun h2 => retB de_str ?_) (fun h2 => nilB ?_)
    · unfold ownWrong
      rw [if_neg h1', if_pos (by simpa using h2)]
      rfl
    have h2' : ¬ h.last < m.2.2 := by simpa using h2
    refine dss_if2 (dw_or (dt_not (dt_le_lt de_int (de_var 11 rfl) (de_len B (de_ixT (de_var 0 rfl) de_int (at_nat (by decide) rfl))))) (fun h3 => dw_or1 (dt_cmp (de_lt (de_ixL (de_ixT (de_var 0 rfl) de_int (at_nat (by decide) rfl)) (de_var 11 rfl) (?_ : _ = some (PyData.int (h.berths.getD m.2.1.toNat 0)))) (de_var 4 rfl))))).t (fun h3 => retB de_str ?_) (fun h3 => nilB ?_)
    · simp at h3
      exact at_nat h3.1 (get_nat h3.1 h3.2)
    · unfold ownWrong
      rw [if_neg h1', if_neg h2', if_pos ?_]
      · rfl
      · simp at h3 ⊢
        rcases h3 with h3 | h3
        · exact .inl fun h0 => by omega
        · exact .inr h3
    have h3' : ¬ (¬ (0 ≤ m.2.1 ∧ m.2.1 < (h.berths.length : Int)) ∨ h.berths.getD m.2.1.toNat 0 < s.length) := by
      simp at h3 ⊢
      exact h3
    refine dss_if2 (dw_or (dt_cmp (de_lt (de_call F1 (das_cons (de_var 0 rfl) (das_cons (de_var 10 rfl) das_nil)) ⟨h, m.1, hk, rfl, rfl⟩) (de_var 5 rfl))) (fun _ => dw_or1 (dt_cmp (de_lt (de_call F1 (das_cons (de_var 0 rfl) (das_cons (de_var 12 rfl) das_nil)) ⟨h, m.2.2, hk, rfl, rfl⟩) (de_var 5 rfl))))).t (fun h4 => retB de_str ?_) (fun h4 => nilB ?_)
    · unfold ownWrong
      rw [if_neg h1', if_neg h2', if_neg h3', if_pos (by simpa using h4)]
      rfl
    refine dss_one (ds_ret de_non ?_)
    unfold ownWrong
    rw [if_neg h1', if_neg h2', if_neg h3', if_neg (by simpa using h4)]
    rfl
def spShare : DSpec := fun ds d => ∃ a b, ds = [encM a, encM b] ∧ d = .bool (share a b)
theorem F_share (D : DefAt T "share" sShare pShare) : DFn T 1 "share" spShare := by
  refine dfn_of (N := nShare) D scShare stShare (fun ds d h => ?_) (fun ds d h Z ok => ?_)
  · obtain ⟨a, b, rfl, rfl⟩ := h; rfl
  · obtain ⟨a, b, rfl, rfl⟩ := h
    exact dss_one (ds_ret (de_andV (de_eqI (de_ixT (de_var 0 rfl) de_int (at_nat (by decide) rfl)) (de_ixT (de_var 1 rfl) de_int (at_nat (by decide) rfl))) fun _ => de_andV (de_le (de_ixT (de_var 0 rfl) de_int (at_nat (by decide) rfl)) (de_ixT (de_var 1 rfl) de_int (at_nat (by decide) rfl))) fun _ => de_one (de_le (de_ixT (de_var 1 rfl) de_int (at_nat (by decide) rfl)) (de_ixT (de_var 0 rfl) de_int (at_nat (by decide) rfl)))) rfl)
def spMovers : DSpec := fun ds d => ∃ p hour, p.length ≤ 1000 ∧ ds = [encPl p, .int hour] ∧ d = .list ((movers p hour).map fun i => .int (i : Nat))
theorem F_movers (D : DefAt T "movers" sMovers pMovers) : DFn T 1 "movers" spMovers := by
  refine dfn_of (N := nMovers) D scMovers stMovers (fun ds d h => ?_) (fun ds d h Z ok => ?_)
  · obtain ⟨p, hour, _, rfl, rfl⟩ := h; rfl
  · obtain ⟨p, hour, hl, rfl, rfl⟩ := h
    have hr : (movers p hour).map (fun i => PyData.int (i : Nat)) = (p.zipIdx.filter fun p => decide (hour = p.1.1) || decide (hour = p.1.2.2)).map fun q => .int (q.2 : Nat) := by
      unfold movers
      rw [List.map_map]
      rfl
    rw [hr]
    refine dss_one (ds_ret (dn_lc [("name", 2), ("first", 3), ("berth", 4), ("out", 5)] (di_enum B (de_var 0 rfl)) (by rw [enumD_length, List.length_map]; omega) (by
      rw [enumD_map]
      refine gives_filter _ 0 fun j x hx => ?_
      exact lct_if (dg_tup (dgs_cons (dg_name 2) (dgs_cons (dg_tup (dgs_cons (dg_name 3) (dgs_cons (dg_name 4) (dgs_cons (dg_name 5) dgs_nil)))) dgs_nil))) (dts_one (dt_cmp (de_in (de_var 1 rfl) (de_tup (das_cons (de_var 3 rfl) (das_cons (de_var 5 rfl) das_nil))) rfl))) (fun _ => de_var 2 rfl) (by
        simp [eqv_int, eq_comm]))).e rfl)
omit B in
theorem cut_take {α : Type} (f : α → PyData) (xs : List α) (i : Nat) (h : i ≤ xs.length) : DL.cutD (xs.map f) none (some (i : Int)) = (xs.take i).map f := by
  unfold DL.cutD
  rw [HT.sIx_none, HT.sIx_nat, List.drop_zero, List.length_map, Nat.min_eq_left h, Nat.sub_zero, List.map_take]
def encV : Option (String × Int) → PyData
  | none => .none
  | some (w, i) => .tuple [.str (Str.ofString w), .int i]
def spWrongIn : DSpec := fun ds d => ∃ h ss p, HOk h ∧ p.length ≤ ss.length ∧ p.length ≤ 1000 ∧ ds = [encH h, encSs ss, encPl p] ∧ d = encV (wrongIn h ss p)
omit B in
theorem zi_get {α : Type} {xs : List α} {i : Nat} {p : α × Nat} (h : xs.zipIdx[i]? = some p) : xs[i]? = some p.1 ∧ p.2 = i := by
  rw [List.getElem?_zipIdx] at h
  obtain ⟨x, h1, rfl⟩ := Option.map_eq_some_iff.mp h
  exact ⟨h1, by simp⟩
omit B in
theorem ship_get {ss : List Ship} {i : Nat} (h : i < ss.length) : (ss.map encS)[((i : Nat) : Int).toNat]? = some (encS (ss.getD i noShip)) := by
  rw [Int.toNat_natCast, List.getElem?_map, List.getElem?_eq_getElem h, List.getD_eq_getElem?_getD, List.getElem?_eq_getElem h]
  rfl
theorem F_wrongIn (F2 : DFn T 2 "own_wrong" spWrong1) (FS : DFn T 1 "share" spShare) (FM : DFn T 1 "movers" spMovers) (D : DefAt T "wrong_in" sWrongIn pWrongIn) : DFn T 3 "wrong_in" spWrongIn := by
  refine dfn_of (N := nWrongIn) D scWrongIn stWrongIn (fun ds d h => ?_) (fun ds d h Z ok => ?_)
  · obtain ⟨h, ss, p, _, _, _, rfl, rfl⟩ := h; rfl
  · obtain ⟨h, ss, p, hk, hl, hl2, rfl, rfl⟩ := h
    have z1 : ∀ (q : Mv × Nat) w, p.zipIdx[q.2]? = some q → (∀ j, j < q.2 → (wrongAt h ss p (p.getD j (0, 0, 0)) j).isSome = false) → wrongAt h ss p q.1 q.2 = some w → encV (wrongIn h ss p) = .tuple [.str (Str.ofString w), .int (q.2 : Nat)] := fun q w hq hno hw => by
      have e := findSome_at (f := fun p1 : Mv × Nat => (wrongAt h ss p p1.1 p1.2).map fun w => (w, (p1.2 : Int))) hq (fun j z hj hz => by
        obtain ⟨e1, e2⟩ := zi_get hz
        have q1 := hno j hj
        rw [List.getD_eq_getElem?_getD, e1, ← e2] at q1
        show Option.map _ (wrongAt h ss p z.1 z.2) = none
        cases e3 : wrongAt h ss p z.1 z.2 with
        | none => rfl
        | some y => rw [show (some z.1).getD (0, 0, 0) = z.1 from rfl, e3] at q1; cases q1) (by show Option.map _ (wrongAt h ss p q.1 q.2) = _; rw [hw]; rfl)
      unfold wrongIn
      rw [e]
      rfl
    refine dss_forV (fun i => (wrongAt h ss p (p.getD i (0, 0, 0)) i).isSome) (fun _ => [.dat (encH h), .dat (encSs ss), .dat (encPl p), .unk, .unk, .unk, .unk, .unk]) (by repeat constructor) (di_enum B (de_var 2 rfl)) (fun i d hno hd => ?_) (fun hno => ?_)
    · rw [enumD_map, List.getElem?_map] at hd
      obtain ⟨q, hq, rfl⟩ := Option.map_eq_some_iff.mp hd
      obtain ⟨hq1, rfl⟩ := zi_get hq
      have hlt : q.2 < p.length := (List.getElem?_eq_some_iff.mp hq1).1
      have hg : p.getD q.2 (0, 0, 0) = q.1 := by rw [List.getD_eq_getElem?_getD, hq1]; rfl
      rw [hg]
      refine ⟨_, _, dg_tup (dgs_cons (dg_name 3) (dgs_cons (dg_name 4) dgs_nil)), [.dat (encH h), .dat (encSs ss), .dat (encPl p), dI (q.2 : Nat), .dat (encM q.1), .dat .none, .unk, .unk], ?_, .keep (.keep (.keep (.drop (.drop (.drop (.keep (.keep .nil)))))))⟩
      refine dss_at [.dat (encH h), .dat (encSs ss), .dat (encPl p), dI (q.2 : Nat), .dat (encM q.1), .unk, .unk, .unk] ?_
      refine dss_cons (ds_asg (de_call F2 (das_cons (de_var 0 rfl) (das_cons (de_ixL (de_var 1 rfl) (de_var 3 rfl) (at_nat (by omega) (ship_get (by omega)))) (das_cons (de_var 4 rfl) das_nil))) ⟨h, ss.getD q.2 noShip, q.1, hk, rfl, rfl⟩) (dg_name 5)) ?_
      refine dss_at [.dat (encH h), .dat (encSs ss), .dat (encPl p), dI (q.2 : Nat), .dat (encM q.1), .dat (encW (ownWrong h (ss.getD q.2 noShip) q.1)), .unk, .unk] ?_
      have hsl : DL.cutD (p.map encM) none (some ((q.2 : Nat) : Int)) = (p.take q.2).map encM := cut_take encM p q.2 (by omega)
      refine dss_if2 (x := decide (ownWrong h (ss.getD q.2 noShip) q.1 = none) && (p.take q.2).any (fun o => share q.1 o)) (dw_and (x := decide (ownWrong h (ss.getD q.2 noShip) q.1 = none)) (dt_cmp (de_to (de_isN (de_var 5 rfl)) ?_)) (fun _ => dw_and1 (dt_val (de_to (de_any (bs := (p.take q.2).map (share q.1)) B (DN.e (dn_lc [("other", 7)] (di_list (DN.e (dn_slice (de_var 2 rfl) dp_none (dp_some (de_var 3 rfl))))) (by rw [hsl, List.length_map, List.length_take]; omega) (by
        rw [hsl, List.map_map]
        exact gives_map _ 0 fun j x hx => lct_all (dg_name 7) (de_call FS (das_cons (de_var 4 rfl) (das_cons (de_var 7 rfl) das_nil)) ⟨q.1, x, rfl, rfl⟩))))) (by rw [List.any_map]; rfl))))).t (fun h1 => ?_) (fun h1 => ?_)
      · cases ownWrong h (ss.getD q.2 noShip) q.1 <;> rfl
      · simp only [Bool.and_eq_true, decide_eq_true_eq] at h1
        obtain ⟨h1, h2⟩ := h1
        have hw : wrongAt h ss p q.1 q.2 = some "taken" := by
          unfold wrongAt
          rw [h1]
          show (if _ then _ else _) = _
          rw [if_pos h2]
        refine ⟨_, dss_one (ds_asg de_str (dg_name 5)), dss_at [.dat (encH h), .dat (encSs ss), .dat (encPl p), dI (q.2 : Nat), .dat (encM q.1), .dat (.str (Str.ofString "taken")), .unk, .unk] ?_⟩
        exact dss_if2 (dt_cmp (de_notN (de_var 5 rfl))) (fun _ => retB (de_tup (das_cons (de_var 5 rfl) (das_cons (de_var 3 rfl) das_nil))) (z1 q "taken" hq hno hw).symm) (fun z => by cases z)
      · refine nilB ?_
        cases hw1 : ownWrong h (ss.getD q.2 noShip) q.1 with
        | some w =>
          have hw : wrongAt h ss p q.1 q.2 = some w := by
            unfold wrongAt
            rw [hw1]
          exact dss_if2 (dt_cmp (de_notN (de_var 5 rfl))) (fun _ => retB (de_tup (das_cons (de_var 5 rfl) (das_cons (de_var 3 rfl) das_nil))) (z1 q w hq hno hw).symm) (fun z => by cases z)
        | none =>
          have hw : wrongAt h ss p q.1 q.2 = none := by
            unfold wrongAt
            rw [hw1]
            show (if _ then _ else _) = _
            rw [if_neg]
            rw [hw1] at h1
            simpa using h1
          rw [hw]
          exact dss_if2 (dt_cmp (de_notN (de_var 5 rfl))) (fun z => by cases z) (fun _ => nilB (dss_nil))
    · have z2 : p.zipIdx.findSome? (fun p1 : Mv × Nat => (wrongAt h ss p p1.1 p1.2).map fun w => (w, (p1.2 : Int))) = none := findSome_no fun j z hz => by
        obtain ⟨e1, e2⟩ := zi_get hz
        have q1 := hno j (by rw [enumD_length, List.length_map]; exact (List.getElem?_eq_some_iff.mp e1).1)
        rw [List.getD_eq_getElem?_getD, e1, ← e2] at q1
        show Option.map _ (wrongAt h ss p z.1 z.2) = none
        cases e3 : wrongAt h ss p z.1 z.2 with
        | none => rfl
        | some y => rw [show (some z.1).getD (0, 0, 0) = z.1 from rfl, e3] at q1; cases q1
      have mv : ∀ hour : Int, ∀ j ∈ movers p hour, j < ss.length := fun hour j hj => by
        unfold movers at hj
        obtain ⟨q, hq, rfl⟩ := List.mem_map.mp hj
        have hq2 := (List.mem_filter.mp hq).1
        obtain ⟨i, hi⟩ := List.getElem?_of_mem hq2
        obtain ⟨e1, e2⟩ := zi_get hi
        have := (List.getElem?_eq_some_iff.mp e1).1
        omega
      have ml : ∀ hour : Int, (movers p hour).length ≤ 1000 := fun hour => by
        unfold movers
        rw [List.length_map]
        exact Nat.le_trans (List.length_filter_le _ _) (by rw [List.length_zipIdx]; exact hl2)
      refine dss_forV (fun i => decide (h.tugs < tugsAt ss p ((i : Nat) : Int))) (fun _ => [.dat (encH h), .dat (encSs ss), .dat (encPl p), .unk, .unk, .unk, .unk, .unk]) (by repeat constructor) (di_range1 B (de_add (de_ixT (de_var 0 rfl) de_int (at_nat (by decide) rfl)) de_int) (by have := hk.l0; omega) (by have := hk.l1; omega)) (fun i d hno2 hd => ?_) (fun hno2 => ?_)
      · obtain ⟨hi1, rfl⟩ := rngD_get hd
        refine ⟨_, _, dg_name 6, [.dat (encH h), .dat (encSs ss), .dat (encPl p), .unk, .unk, .unk, dI (0 + (i : Nat)), .unk], ?_, .keep (.keep (.keep (.drop (.drop (.drop (.drop (.keep .nil)))))))⟩
        refine dss_at [.dat (encH h), .dat (encSs ss), .dat (encPl p), .unk, .unk, .unk, dI (0 + (i : Nat)), .unk] ?_
        rw [Int.zero_add]
        refine dss_if2 (dt_cmp (de_gt (de_sum (ns := (movers p (i : Nat)).map (needOf ss)) B (DN.e (dn_lc [("name", 3)] (di_list (de_call FM (das_cons (de_var 2 rfl) (das_cons (de_var 6 rfl) das_nil)) ⟨p, (i : Nat), hl2, rfl, rfl⟩)) (by rw [List.length_map]; exact Nat.le_trans (ml _) (by decide)) (by
          rw [List.map_map]
          refine gives_map _ 0 fun j x hx => lct_all (dg_name 3) (de_ixT (de_ixL (de_var 1 rfl) (de_var 3 rfl) (at_nat (by omega) (ship_get (mv _ x (List.mem_of_getElem? hx))))) de_int (at_nat (by decide) rfl)))))) (de_ixT (de_var 0 rfl) de_int (at_nat (by decide) rfl)))) (fun h3 => retB (de_tup (das_cons de_str (das_cons (de_var 6 rfl) das_nil))) ?_) (fun h3 => nilB ?_)
        · have e := findSome_at (f := tugsWrong h ss p) (xs := rng 0 (h.last + 1)) (i := i) (x := (i : Nat)) (y := ("tugs", ((i : Nat) : Int))) (by
            unfold rng
            rw [List.getElem?_map, List.getElem?_range (by omega)]
            simp) (fun j z hj hz => by
              obtain ⟨e1, _⟩ := rng_get hz
              have q1 := hno2 j hj
              rw [Int.zero_add] at e1
              subst e1
              unfold tugsWrong
              rw [if_neg (by simpa using q1)]) (by
              unfold tugsWrong
              rw [if_pos]
              simpa [tugsAt] using h3)
          unfold wrongIn
          rw [z2]
          simp only []
          rw [e]
          rfl
        · have h3' : decide (h.tugs < tugsAt ss p ((i : Nat) : Int)) = false := h3
          rw [h3']
          exact dss_nil
      · have z3 : (rng 0 (h.last + 1)).findSome? (tugsWrong h ss p) = none := findSome_no fun j z hz => by
          obtain ⟨e1, e2⟩ := rng_get hz
          have q1 := hno2 j (by rw [rngD_length]; omega)
          rw [Int.zero_add] at e1
          subst e1
          unfold tugsWrong
          rw [if_neg (by simpa using q1)]
        refine dss_forV (fun i => decide (h.pilots < ((movers p ((i : Nat) : Int)).length : Int))) (fun _ => [.dat (encH h), .dat (encSs ss), .dat (encPl p), .unk, .unk, .unk, .unk, .unk]) (by repeat constructor) (di_range1 B (de_add (de_ixT (de_var 0 rfl) de_int (at_nat (by decide) rfl)) de_int) (by have := hk.l0; omega) (by have := hk.l1; omega)) (fun i d hno3 hd => ?_) (fun hno3 => ?_)
        · obtain ⟨hi1, rfl⟩ := rngD_get hd
          refine ⟨_, _, dg_name 6, [.dat (encH h), .dat (encSs ss), .dat (encPl p), .unk, .unk, .unk, dI (0 + (i : Nat)), .unk], ?_, .keep (.keep (.keep (.drop (.drop (.drop (.drop (.keep .nil)))))))⟩
          refine dss_at [.dat (encH h), .dat (encSs ss), .dat (encPl p), .unk, .unk, .unk, dI (0 + (i : Nat)), .unk] ?_
          rw [Int.zero_add]
          refine dss_if2 (dt_cmp (de_gt (de_len B (de_call FM (das_cons (de_var 2 rfl) (das_cons (de_var 6 rfl) das_nil)) ⟨p, (i : Nat), hl2, rfl, rfl⟩)) (de_ixT (de_var 0 rfl) de_int (at_nat (by decide) rfl)))) (fun h3 => retB (de_tup (das_cons de_str (das_cons (de_var 6 rfl) das_nil))) ?_) (fun h3 => nilB ?_)
          · have e := findSome_at (f := pilotsWrong h p) (xs := rng 0 (h.last + 1)) (i := i) (x := (i : Nat)) (y := ("pilots", ((i : Nat) : Int))) (by
              unfold rng
              rw [List.getElem?_map, List.getElem?_range (by omega)]
              simp) (fun j z hj hz => by
                obtain ⟨e1, _⟩ := rng_get hz
                have q1 := hno3 j hj
                rw [Int.zero_add] at e1
                subst e1
                unfold pilotsWrong
                rw [if_neg (by simpa using q1)]) (by
                unfold pilotsWrong
                rw [if_pos]
                simpa using h3)
            unfold wrongIn
            rw [z2]
            simp only []
            rw [z3]
            simp only []
            rw [e]
            rfl
          · have h3' : decide (h.pilots < ((movers p ((i : Nat) : Int)).length : Int)) = false := by simpa using h3
            rw [h3']
            exact dss_nil
        · have z4 : (rng 0 (h.last + 1)).findSome? (pilotsWrong h p) = none := findSome_no fun j z hz => by
            obtain ⟨e1, e2⟩ := rng_get hz
            have q1 := hno3 j (by rw [rngD_length]; omega)
            rw [Int.zero_add] at e1
            subst e1
            unfold pilotsWrong
            rw [if_neg (by simpa using q1)]
          refine dss_one (ds_ret de_non ?_)
          unfold wrongIn
          rw [z2]
          simp only []
          rw [z3]
          simp only []
          rw [z4]
          rfl
def spIsPlan : DSpec := fun ds d => ∃ h ss p, HOk h ∧ p.length ≤ ss.length ∧ p.length ≤ 1000 ∧ ds = [encH h, encSs ss, encPl p] ∧ d = .bool (isPlan h ss p)
theorem F_isPlan (F : DFn T 3 "wrong_in" spWrongIn) (D : DefAt T "is_plan" sIsPlan pIsPlan) : DFn T 4 "is_plan" spIsPlan := by
  refine dfn_of (N := nIsPlan) D scIsPlan stIsPlan (fun ds d h => ?_) (fun ds d h Z ok => ?_)
  · obtain ⟨h, ss, p, _, _, _, rfl, rfl⟩ := h; rfl
  · obtain ⟨h, ss, p, hk, hl, hl2, rfl, rfl⟩ := h
    refine dss_one (ds_ret (de_isN (de_call F (das_cons (de_var 0 rfl) (das_cons (de_var 1 rfl) (das_cons (de_var 2 rfl) das_nil))) ⟨h, ss, p, hk, hl, hl2, rfl, rfl⟩)) ?_)
    unfold isPlan
    cases wrongIn h ss p <;> rfl
def pairD (p : Int × Int) : PyData := .tuple [.int p.1, .int p.2]
def spWaits : DSpec := fun ds d => ∃ ss p, p.length ≤ 1000 ∧ ds = [encSs ss, encPl p] ∧ d = .list ((waits ss p).map pairD)
theorem F_waits (D : DefAt T "waits" sWaits pWaits) : DFn T 1 "waits" spWaits := by
  refine dfn_of (N := nWaits) D scWaits stWaits (fun ds d h => ?_) (fun ds d h Z ok => ?_)
  · obtain ⟨ss, p, _, rfl, rfl⟩ := h; rfl
  · obtain ⟨ss, p, hl, rfl, rfl⟩ := h
    have e : (waits ss p).map pairD = (ss.zip p).map fun q => .tuple [.int (q.2.1 - q.1.ready), .int (q.2.2.2 - q.2.1 - q.1.stay - 1)] := by
      unfold waits
      rw [List.map_map]
      rfl
    rw [e]
    refine dss_one (ds_ret (DN.e (dn_lc [("ship", 2), ("first", 3), ("berth", 4), ("out", 5)] (di_zip B (de_var 0 rfl) (de_var 1 rfl)) (by rw [zipD_length, List.length_map, List.length_map]; omega) (by
      rw [zipD_map]
      exact gives_map _ 0 fun j x hx => lct_all (dg_tup (dgs_cons (dg_name 2) (dgs_cons (dg_tup (dgs_cons (dg_name 3) (dgs_cons (dg_name 4) (dgs_cons (dg_name 5) dgs_nil)))) dgs_nil))) (de_tup (das_cons (de_sub (de_var 3 rfl) (de_ixT (de_var 2 rfl) de_int (at_nat (by decide) rfl))) (das_cons (de_sub (de_sub (de_sub (de_var 5 rfl) (de_var 3 rfl)) (de_ixT (de_var 2 rfl) de_int (at_nat (by decide) rfl))) de_int) das_nil)))))) rfl)
/-- all ships' own figures are small -/
def SsOk (ss : List Ship) : Prop := ∀ s ∈ ss, SOk s
def spCost : DSpec := fun ds d => ∃ ss p, SsOk ss ∧ p.length ≤ 1000 ∧ ds = [encSs ss, encPl p] ∧ d = .int (costOf ss p)
theorem F_cost (F : DFn T 1 "waits" spWaits) (D : DefAt T "cost_of" sCost pCost) : DFn T 2 "cost_of" spCost := by
  refine dfn_of (N := nCost) D scCost stCost (fun ds d h => ?_) (fun ds d h Z ok => ?_)
  · obtain ⟨ss, p, _, _, rfl, rfl⟩ := h; rfl
  · obtain ⟨ss, p, hs, hl, rfl, rfl⟩ := h
    have hw : (waits ss p).length ≤ 1000 := by
      unfold waits
      rw [List.length_map, List.length_zip]
      omega
    refine dss_one (ds_ret (de_sum (ns := (ss.zip (waits ss p)).map fun q => q.2.1 * q.1.sea + q.2.2 * q.1.lie) B (DN.e (dn_lc [("ship", 2), ("sea", 3), ("lying", 4)] (di_zip B (de_var 0 rfl) (de_call F (das_cons (de_var 0 rfl) (das_cons (de_var 1 rfl) das_nil)) ⟨ss, p, hl, rfl, rfl⟩)) (by rw [zipD_length, List.length_map, List.length_map]; omega) (by
      rw [zipD_map, List.map_map]
      refine gives_map _ 0 fun j x hx => ?_
      have hm : x.1 ∈ ss := (List.of_mem_zip (List.mem_of_getElem? hx)).1
      have h1 := hs _ hm
      exact lct_all (dg_tup (dgs_cons (dg_name 2) (dgs_cons (dg_tup (dgs_cons (dg_name 3) (dgs_cons (dg_name 4) dgs_nil))) dgs_nil))) (de_add (de_mul (de_var 3 rfl) (de_ixT (de_var 2 rfl) de_int (at_nat (by decide) rfl)) (.inr ⟨by have := h1.s0; omega, by have := h1.s1; omega⟩)) (de_mul (de_var 4 rfl) (de_ixT (de_var 2 rfl) de_int (at_nat (by decide) rfl)) (.inr ⟨by have := h1.i0; omega, by have := h1.i1; omega⟩))))))) rfl)
omit B in
theorem take_fold {α β : Type} (f : β → α → β) (a : β) {xs : List α} {i : Nat} {x : α} (h : xs[i]? = some x) : (xs.take (i + 1)).foldl f a = f ((xs.take i).foldl f a) x := by
  obtain ⟨hi, e⟩ := List.getElem?_eq_some_iff.mp h
  rw [List.take_succ_eq_append_getElem hi, List.foldl_append, e]
  rfl
/-- a move within the hours -/
structure MOk (m : Mv) : Prop where
  f0 : 0 ≤ m.1
  f1 : m.1 ≤ m.2.2
  o1 : m.2.2 ≤ 100
omit B in
theorem maxOf_le (l : List Int) : ∀ a : Int, a ≤ l.foldl max a ∧ ∀ x ∈ l, x ≤ l.foldl max a := by
  induction l with
  | nil => intro a; simp
  | cons y l ih =>
    intro a
    rw [List.foldl_cons]
    obtain ⟨h1, h2⟩ := ih (max a y)
    refine ⟨by omega, fun x hx => ?_⟩
    rcases List.mem_cons.mp hx with rfl | hx
    · omega
    · exact h2 x hx
omit B in
theorem maxOf_mem (l : List Int) : ∀ a : Int, l.foldl max a = a ∨ l.foldl max a ∈ l := by
  induction l with
  | nil => intro a; exact .inl rfl
  | cons y l ih =>
    intro a
    rw [List.foldl_cons]
    rcases ih (max a y) with h | h
    · rw [h]
      by_cases hy : a ≤ y
      · right; rw [Int.max_eq_right hy]; simp
      · left; omega
    · exact .inr (List.mem_cons_of_mem _ h)
omit B in
theorem addRange_len (l : List Int) (xs : List Int) (x : Int) : (xs.foldl (fun l i => l.set i.toNat (l.getD i.toNat 0 + x)) l).length = l.length := by
  induction xs generalizing l with
  | nil => rfl
  | cons y ys ih => rw [List.foldl_cons, ih, List.length_set]
def hStep (l : List Int) (p : Ship × Mv) : List Int := addRange (addRange l p.1.ready p.2.1 p.1.sea) (p.2.1 + p.1.stay + 1) p.2.2.2 p.1.lie
omit B in
theorem hStep_len (l : List Int) (xs : List (Ship × Mv)) : (xs.foldl hStep l).length = l.length := by
  induction xs generalizing l with
  | nil => rfl
  | cons y ys ih => rw [List.foldl_cons, ih, hStep, addRange, addRange_len, addRange, addRange_len]
def spHCosts : DSpec := fun ds d => ∃ ss p, SsOk ss ∧ p ≠ [] ∧ (∀ m ∈ p, MOk m) ∧ p.length ≤ 1000 ∧ ds = [encSs ss, encPl p] ∧ d = encIs (hourCosts ss p)
theorem F_hcosts (D : DefAt T "hour_costs" sHCosts pHCosts) : DFn T 1 "hour_costs" spHCosts := by
  refine dfn_of (N := nHCosts) D scHCosts stHCosts (fun ds d h => ?_) (fun ds d h Z ok => ?_)
  · obtain ⟨ss, p, _, _, _, _, rfl, rfl⟩ := h; rfl
  · obtain ⟨ss, p, hs, hp0, hm, hl, rfl, rfl⟩ := h
    have hmx : ∀ m ∈ p, m.2.2 ≤ maxOf (p.map fun m => m.2.2) := fun m h => (maxOf_le _ 0).2 _ (List.mem_map.mpr ⟨m, h, rfl⟩)
    have hm0 : 0 ≤ maxOf (p.map fun m => m.2.2) := (maxOf_le _ 0).1
    have hm1 : maxOf (p.map fun m => m.2.2) ≤ 100 := by
      rcases maxOf_mem (p.map fun m => m.2.2) 0 with h | h
      · unfold maxOf; rw [h]; omega
      · obtain ⟨m, h1, h2⟩ := List.mem_map.mp h
        unfold maxOf
        rw [← h2]
        exact (hm m h1).o1
    have hmm : maxOf (p.map fun m => m.2.2) ∈ p.map fun m => m.2.2 := by
      rcases maxOf_mem (p.map fun m => m.2.2) 0 with h | h
      · obtain ⟨m, hmp⟩ := List.exists_mem_of_ne_nil p hp0
        have h1 := hmx m hmp
        have h2 := hm m hmp
        have h3 := h2.f0
        have h4 := h2.f1
        refine List.mem_map.mpr ⟨m, hmp, ?_⟩
        unfold maxOf at h1 ⊢
        omega
      · exact h
    let n0 := (1 + maxOf (p.map fun m => m.2.2)).toNat
    let init := List.replicate n0 (0 : Int)
    refine dss_cons (ds_new 5 (dn_rep (n := 1 + maxOf (p.map fun m => m.2.2)) (DN.e (dn_lst (das_cons de_int das_nil))) (de_add de_int (de_maxL (ns := p.map fun m => m.2.2) B (DN.e (dn_lc [("first", 2), ("berth", 3), ("out", 4)] (di_list (de_var 1 rfl)) (by rw [List.length_map]; omega) (by
      rw [List.map_map]
      exact gives_map _ 0 fun j x hx => lct_all (dg_tup (dgs_cons (dg_name 2) (dgs_cons (dg_name 3) (dgs_cons (dg_name 4) dgs_nil)))) (de_var 4 rfl)))) hmm (fun y hy => (maxOf_le _ 0).2 y hy))) (by omega) (by omega) (by simp; omega))) ?_
    refine dss_at [.dat (encSs ss), .dat (encPl p), .unk, .unk, .unk, .own (init.map PyData.int), .unk, .unk] ?_ (by
      rw [List.flatten_replicate_singleton]
      simp only [init, List.map_replicate]
      rfl)
    let st : Nat → List Int := fun i => ((ss.zip p).take i).foldl hStep init
    have stl : ∀ i, (st i).length = n0 := fun i => by
      show (((ss.zip p).take i).foldl hStep init).length = n0
      rw [hStep_len]
      exact List.length_replicate
    let g : Int → List Int → Int → List Int := fun x l i => l.set i.toNat (l.getD i.toNat 0 + x)
    refine dss_forC (fun i => [.dat (encSs ss), .dat (encPl p), .unk, .unk, .unk, .own ((st i).map PyData.int), .unk, .unk]) (by repeat constructor) (di_zip B (de_var 0 rfl) (de_var 1 rfl)) (fun i d hd => ?_) ?_
    · rw [zipD_map, List.getElem?_map] at hd
      obtain ⟨x, hx, rfl⟩ := Option.map_eq_some_iff.mp hd
      obtain ⟨s, m⟩ := x
      have hmem := List.of_mem_zip (List.mem_of_getElem? hx)
      have hsk := hs s hmem.1
      have hmk := hm m hmem.2
      have hmo := hmx m hmem.2
      obtain ⟨a1, a2, a3, a4, _, _, _, _, _⟩ := hsk
      obtain ⟨b1, b2, b3⟩ := hmk
      have stx : st (i + 1) = hStep (st i) (s, m) := take_fold hStep init hx
      refine ⟨_, _, dg_tup (dgs_cons (dg_name 6) (dgs_cons (dg_tup (dgs_cons (dg_name 2) (dgs_cons (dg_name 3) (dgs_cons (dg_name 4) dgs_nil)))) dgs_nil)), [.dat (encSs ss), .dat (encPl p), dI m.1, dI m.2.1, dI m.2.2, .own ((st (i + 1)).map PyData.int), .dat (encS s), .unk], ?_, .keep (.keep (.drop (.drop (.drop (.keep (.drop (.keep .nil)))))))⟩
      have key : ∀ (l : List Int) (a b x : Int) (j : Nat), l.length = n0 → 0 ≤ a → b ≤ m.2.2 → ∀ k, k = a + (j : Nat) → a + (j : Nat) < b → 0 ≤ k ∧ (((((rng a b).take j).foldl (g x) l).map PyData.int)[k.toNat]? = some (.int ((((rng a b).take j).foldl (g x) l).getD k.toNat 0))) ∧ ((((rng a b).take j).foldl (g x) l).map PyData.int).set k.toNat (.int ((((rng a b).take j).foldl (g x) l).getD k.toNat 0 + x)) = (((rng a b).take (j + 1)).foldl (g x) l).map PyData.int := fun l a b x j hl0 ha hb k hk hk2 => by
        have hlen : (((rng a b).take j).foldl (g x) l).length = n0 := by rw [← hl0]; exact addRange_len l _ x
        have hlt : k.toNat < n0 := by
          show k.toNat < (1 + maxOf (p.map fun m => m.2.2)).toNat
          omega
        have hr : (rng a b)[j]? = some k := by
          unfold rng
          rw [List.getElem?_map, List.getElem?_range (by omega), hk]
          rfl
        refine ⟨by omega, ?_, ?_⟩
        · rw [List.getElem?_map, List.getElem?_eq_getElem (by omega), List.getD_eq_getElem?_getD, List.getElem?_eq_getElem (by omega)]
          rfl
        · rw [take_fold (g x) l hr, List.map_set]
      refine dss_forC (fun j => [.dat (encSs ss), .dat (encPl p), dI m.1, dI m.2.1, dI m.2.2, .own ((((rng s.ready m.1).take j).foldl (g s.sea) (st i)).map PyData.int), .dat (encS s), .unk]) (by repeat constructor) (di_range2 B (de_ixT (de_var 6 rfl) de_int (at_nat (by decide) rfl)) (de_var 2 rfl) (by omega) (by omega) (by omega) (by omega)) (fun j d hd => ?_) ?_
      · obtain ⟨hj1, rfl⟩ := rngD_get hd
        obtain ⟨k1, k2, k3⟩ := key (st i) s.ready m.1 s.sea j (stl i) a1 b2 _ rfl (by omega)
        refine ⟨_, _, dg_name 7, _, dss_one (ds_augAt 5 rfl (de_var 7 rfl) (de_ixT (de_var 6 rfl) de_int (at_nat (by decide) rfl)) k1 k2), ?_⟩
        rw [k3]
        exact .keep (.keep (.keep (.keep (.keep (.keep (.keep (.drop .nil)))))))
      refine dss_at [.dat (encSs ss), .dat (encPl p), dI m.1, dI m.2.1, dI m.2.2, .own ((addRange (st i) s.ready m.1 s.sea).map PyData.int), .dat (encS s), .unk] ?_ (by
        rw [rngD_length, ← rng_len, List.take_length]
        rfl)
      refine dss_forC (fun j => [.dat (encSs ss), .dat (encPl p), dI m.1, dI m.2.1, dI m.2.2, .own ((((rng (m.1 + s.stay + 1) m.2.2).take j).foldl (g s.lie) (addRange (st i) s.ready m.1 s.sea)).map PyData.int), .dat (encS s), .unk]) (by repeat constructor) (di_range2 B (de_add (de_add (de_var 2 rfl) (de_ixT (de_var 6 rfl) de_int (at_nat (by decide) rfl))) de_int) (de_var 4 rfl) (by omega) (by omega) (by omega) (by omega)) (fun j d hd => ?_) ?_
      · obtain ⟨hj1, rfl⟩ := rngD_get hd
        obtain ⟨k1, k2, k3⟩ := key (addRange (st i) s.ready m.1 s.sea) (m.1 + s.stay + 1) m.2.2 s.lie j (by rw [← stl i]; exact addRange_len (st i) _ s.sea) (by omega) (by omega) _ rfl (by omega)
        refine ⟨_, _, dg_name 7, _, dss_one (ds_augAt 5 rfl (de_var 7 rfl) (de_ixT (de_var 6 rfl) de_int (at_nat (by decide) rfl)) k1 k2), ?_⟩
        rw [k3]
        exact .keep (.keep (.keep (.keep (.keep (.keep (.keep (.drop .nil)))))))
      exact dss_to dss_nil (by
        rw [rngD_length, ← rng_len, List.take_length, stx]
        rfl)
    · refine dss_rel 5 rfl (dss_one (ds_ret (de_var 5 rfl) ?_))
      show PyData.list ((((ss.zip p).take _).foldl hStep init).map PyData.int) = _
      rw [zipD_length, List.length_map, List.length_map, ← List.length_zip, List.take_length]
      rfl
end
end TW

/-! Walks: the search, its parts. -/
namespace TW
open PySem PySem.Spec L2 DL
open PyProof.Rows hiding St
def encP (p : Place) : PyData := .tuple [.int p.1, .int p.2]
def encSt (st : State) : PyData := .tuple (st.map encP)
def encO : Option Int → PyData
  | none => .none
  | some i => .int i
def encWay (w : Way) : PyData := .tuple [encP w.1, encO w.2.1, .bool w.2.2]
def encRow (r : Row) : PyData := .tuple [encSt r.places, .int r.cost, encIs r.taken, .int r.tugs, .int r.pilots]
theorem eqv_place (p q : Place) : PyData.eqv (encP p) (encP q) = decide (p = q) := by
  obtain ⟨a, b⟩ := p
  obtain ⟨c, d⟩ := q
  unfold encP
  simp only [PyData.eqv, PyData.eqvAll]
  by_cases h1 : a = c <;> by_cases h2 : b = d <;> simp [h1, h2]
theorem take_filter {α : Type} (f : α → Bool) {xs : List α} {i : Nat} {x : α} (h : xs[i]? = some x) : (xs.take (i + 1)).filter f = (xs.take i).filter f ++ (if f x = true then [x] else []) := by
  obtain ⟨hi, e⟩ := List.getElem?_eq_some_iff.mp h
  rw [List.take_succ_eq_append_getElem hi, List.filter_append, e]
  congr 1
  by_cases hf : f x = true
  · rw [if_pos hf, List.filter_cons_of_pos hf]; rfl
  · rw [if_neg hf, List.filter_cons_of_neg hf]; rfl
theorem take_flatMap {α β : Type} (f : α → List β) {xs : List α} {i : Nat} {x : α} (h : xs[i]? = some x) : (xs.take (i + 1)).flatMap f = (xs.take i).flatMap f ++ f x := by
  obtain ⟨hi, e⟩ := List.getElem?_eq_some_iff.mp h
  rw [List.take_succ_eq_append_getElem hi, List.flatMap_append, e]
  simp
section
variable {T : Tx} (B : Blt T) (GS : GlobD T "AT_SEA" (encP SEA)) (GG : GlobD T "GONE" (encP GONE))
include B GS GG
def spWays : DSpec := fun ds d => ∃ h s p hour, HOk h ∧ ds = [encH h, encS s, encP p, .int hour] ∧ d = .list ((waysOut h s p hour).map encWay)
theorem F_ways (F1 : DFn T 1 "depth_at" spDepth) (D : DefAt T "ways_out" sWays pWays) : DFn T 2 "ways_out" spWays := by
  refine dfn_of (N := nWays) D scWays stWays (fun ds d h => ?_) (fun ds d h Z ok => ?_)
  · obtain ⟨h, s, p, hour, _, rfl, rfl⟩ := h; rfl
  · obtain ⟨h, s, p, hour, hk, rfl, rfl⟩ := h
    refine dss_cons (ds_asg (de_var 1 rfl) (dg_tup (dgs_cons (dg_name 4) (dgs_cons (dg_name 5) (dgs_cons (dg_name 6) (dgs_cons (dg_name 7) (dgs_cons (dg_name 8) (dgs_cons (dg_name 8) (dgs_cons (dg_name 8) dgs_nil))))))))) ?_
    refine dss_at [.dat (encH h), .dat (encS s), .dat (encP p), dI hour, dI s.ready, dI s.length, dI s.draught, dI s.stay, dI s.lie, .unk, .unk, .unk, .unk] ?_
    refine dss_if2 (dt_cmp (de_to (de_eq (de_var 2 rfl) (de_glob GG)) (congrArg PyData.bool (eqv_place p GONE)))) (fun h1 => retB (DN.e (dn_lst (das_cons (de_tup (das_cons (de_glob GG) (das_cons de_non (das_cons de_bl das_nil)))) das_nil))) ?_) (fun h1 => nilB ?_)
    · unfold waysOut
      rw [if_pos (by simpa using h1)]
      rfl
    have h1' : ¬ p = GONE := by simpa using h1
    refine dss_cons (ds_asg (de_ge (de_call F1 (das_cons (de_var 0 rfl) (das_cons (de_var 3 rfl) das_nil)) ⟨h, hour, hk, rfl, rfl⟩) (de_var 6 rfl)) (dg_name 9)) ?_
    refine dss_at [.dat (encH h), .dat (encS s), .dat (encP p), dI hour, dI s.ready, dI s.length, dI s.draught, dI s.stay, dI s.lie, .dat (.bool (decide (s.draught ≤ depthAt h hour))), .unk, .unk, .unk] ?_
    refine dss_if2 (dt_cmp (de_to (de_eq (de_var 2 rfl) (de_glob GS)) (congrArg PyData.bool (eqv_place p SEA)))) (fun h2 => ?_) (fun h2 => nilB ?_)
    · have h2' : p = SEA := by simpa using h2
      refine ⟨[.bot], ?_, dss_bot⟩
      refine dss_cons (ds_new 10 (dn_lst (das_cons (de_tup (das_cons (de_glob GS) (das_cons de_non (das_cons de_bl das_nil)))) das_nil))) ?_
      refine dss_at [.dat (encH h), .dat (encS s), .dat (encP p), dI hour, dI s.ready, dI s.length, dI s.draught, dI s.stay, dI s.lie, .dat (.bool (decide (s.draught ≤ depthAt h hour))), .own [encWay (SEA, none, false)], .unk, .unk] ?_
      let ff : Int × Nat → Bool := fun q => decide (s.length ≤ q.1)
      let mk : Int × Nat → Way := fun q => (((q.2 : Int), hour + s.stay + 1), some (q.2 : Int), true)
      refine dss_if2 (dw_and (dt_val (de_var 9 rfl)) (fun _ => dw_and1 (dt_cmp (de_ge (de_var 3 rfl) (de_var 4 rfl))))).t (fun h3 => ?_) (fun h3 => nilB ?_)
      · refine ⟨_, dss_forC (r1 := [.dat (encH h), .dat (encS s), .dat (encP p), dI hour, dI s.ready, dI s.length, dI s.draught, dI s.stay, dI s.lie, .dat (.bool (decide (s.draught ≤ depthAt h hour))), .own (encWay (SEA, none, false) :: ((h.berths.zipIdx.filter ff).map mk).map encWay), .unk, .unk]) (fun i => [.dat (encH h), .dat (encS s), .dat (encP p), dI hour, dI s.ready, dI s.length, dI s.draught, dI s.stay, dI s.lie, .dat (.bool (decide (s.draught ≤ depthAt h hour))), .own (encWay (SEA, none, false) :: (((h.berths.zipIdx.take i).filter ff).map mk).map encWay), .unk, .unk]) (by repeat constructor) (di_enum B (de_ixT (de_var 0 rfl) de_int (at_nat (by decide) rfl))) (fun i d hd => ?_) ?_, ?_⟩
        · rw [enumD_map, List.getElem?_map] at hd
          obtain ⟨x, hx, rfl⟩ := Option.map_eq_some_iff.mp hd
          obtain ⟨x1, x2⟩ := zi_get hx
          have hlt := (List.getElem?_eq_some_iff.mp x1).1
          refine ⟨_, _, dg_tup (dgs_cons (dg_name 11) (dgs_cons (dg_name 12) dgs_nil)), [.dat (encH h), .dat (encS s), .dat (encP p), dI hour, dI s.ready, dI s.length, dI s.draught, dI s.stay, dI s.lie, .dat (.bool (decide (s.draught ≤ depthAt h hour))), .own (encWay (SEA, none, false) :: (((h.berths.zipIdx.take (i + 1)).filter ff).map mk).map encWay), dI (x.2 : Nat), dI x.1], ?_, .keep (.keep (.keep (.keep (.keep (.keep (.keep (.keep (.keep (.keep (.keep (.drop (.drop .nil))))))))))))⟩
          have hlen : (((h.berths.zipIdx.take i).filter ff).map mk).length ≤ 9 := by
            rw [List.length_map]
            refine Nat.le_trans (List.length_filter_le _ _) ?_
            rw [List.length_take, List.length_zipIdx]
            have := hk.bl
            omega
          rw [take_filter ff hx]
          refine dss_if2 (dt_cmp (de_ge (de_var 12 rfl) (de_var 5 rfl))) (fun h5 => ?_) (fun h5 => nilB ?_)
          · refine ⟨_, dss_one (ds_append 10 rfl (de_tup (das_cons (de_tup (das_cons (de_var 11 rfl) (das_cons (de_add (de_add (de_var 3 rfl) (de_var 7 rfl)) de_int) das_nil))) (das_cons (de_var 11 rfl) (das_cons de_bl das_nil)))) (by rw [List.length_cons, List.length_map]; omega)), dss_to dss_nil ?_⟩
            have h5' : ff x = true := h5
            rw [if_pos h5', List.map_append, List.map_append]
            rfl
          · have h5' : ¬ ff x = true := by
              intro z
              have z' : decide (s.length ≤ x.1) = true := z
              rw [z'] at h5
              cases h5
            rw [if_neg h5', List.append_nil]
            exact dss_nil
        · exact dss_to dss_nil (by
            rw [enumD_length, List.length_map, ← List.length_zipIdx, List.take_length])
        · refine dss_rel 10 rfl (dss_one (ds_ret (de_var 10 rfl) ?_))
          unfold waysOut
          rw [if_neg h1', if_pos h2', if_pos (by simpa using h3), List.map_cons]
      · refine dss_rel 10 rfl (dss_one (ds_ret (de_var 10 rfl) ?_))
        unfold waysOut
        rw [if_neg h1', if_pos h2', if_neg (by simpa using h3)]
        rfl
    · have h2' : ¬ p = SEA := by simpa using h2
      refine dss_cons (ds_new 10 (dn_lst (das_cons (de_tup (das_cons (de_tup (das_cons (de_ixT (de_var 2 rfl) de_int (at_nat (by decide) rfl)) (das_cons (de_max2 B (de_ixT (de_var 2 rfl) de_int (at_nat (by decide) rfl)) (de_add (de_var 3 rfl) de_int)) das_nil))) (das_cons (de_ixT (de_var 2 rfl) de_int (at_nat (by decide) rfl)) (das_cons de_bl das_nil)))) das_nil))) ?_
      refine dss_at [.dat (encH h), .dat (encS s), .dat (encP p), dI hour, dI s.ready, dI s.length, dI s.draught, dI s.stay, dI s.lie, .dat (.bool (decide (s.draught ≤ depthAt h hour))), .own [encWay ((p.1, max p.2 (hour + 1)), some p.1, false)], .unk, .unk] ?_
      refine dss_if2 (dw_and (dt_val (de_var 9 rfl)) (fun _ => dw_and1 (dt_cmp (de_ge (de_var 3 rfl) (de_ixT (de_var 2 rfl) de_int (at_nat (by decide) rfl)))))).t (fun h3 => ?_) (fun h3 => nilB ?_)
      · refine ⟨_, dss_one (ds_append 10 rfl (de_tup (das_cons (de_glob GG) (das_cons (de_ixT (de_var 2 rfl) de_int (at_nat (by decide) rfl)) (das_cons de_bl das_nil)))) (by simp)), dss_at [.dat (encH h), .dat (encS s), .dat (encP p), dI hour, dI s.ready, dI s.length, dI s.draught, dI s.stay, dI s.lie, .dat (.bool (decide (s.draught ≤ depthAt h hour))), .own [encWay ((p.1, max p.2 (hour + 1)), some p.1, false), encWay (GONE, some p.1, true)], .unk, .unk] ?_⟩
        refine dss_rel 10 rfl (dss_one (ds_ret (de_var 10 rfl) ?_))
        unfold waysOut
        rw [if_neg h1', if_neg h2', if_pos (by simpa using h3)]
        rfl
      · refine dss_rel 10 rfl (dss_one (ds_ret (de_var 10 rfl) ?_))
        unfold waysOut
        rw [if_neg h1', if_neg h2', if_neg (by simpa using h3)]
        rfl
def spPHour : DSpec := fun ds d => ∃ s p q hour, ds = [encS s, encP p, encP q, .int hour] ∧ d = .int (priceOfHour s p q hour)
theorem F_phour (D : DefAt T "price_of_hour" sPHour pPHour) : DFn T 1 "price_of_hour" spPHour := by
  refine dfn_of (N := nPHour) D scPHour stPHour (fun ds d h => ?_) (fun ds d h Z ok => ?_)
  · obtain ⟨s, p, q, hour, rfl, rfl⟩ := h; rfl
  · obtain ⟨s, p, q, hour, rfl, rfl⟩ := h
    refine dss_if2 (dt_cmp (de_to (de_eq (de_var 2 rfl) (de_glob GS)) (congrArg PyData.bool (eqv_place q SEA)))) (fun h1 => retB (d := .int (if s.ready ≤ hour then s.sea else 0)) (de_if (dt_cmp (de_ge (de_var 3 rfl) (de_ixT (de_var 0 rfl) de_int (at_nat (by decide) rfl)))) (fun h2 => ?_) (fun h2 => ?_)) ?_) (fun h1 => nilB ?_)
    · rw [if_pos (by simpa using h2)]
      exact de_ixT (de_var 0 rfl) de_int (at_nat (by decide) rfl)
    · rw [if_neg (by simpa using h2)]
      exact de_int
    · exact congrArg PyData.int (if_pos (by simpa using h1)).symm
    have h1' : ¬ q = SEA := by simpa using h1
    refine dss_if2 (x := decide ((p ≠ SEA ∧ p ≠ GONE) ∧ q ≠ GONE ∧ p.2 ≤ hour)) (dt_eq (dw_and (dt_cmp (de_notIn (de_var 1 rfl) (de_tup (das_cons (de_glob GS) (das_cons (de_glob GG) das_nil))) rfl)) (fun _ => dw_and (dt_cmp (de_ne (de_var 2 rfl) (de_glob GG))) (fun _ => dw_and1 (dt_cmp (de_ge (de_var 3 rfl) (de_ixT (de_var 1 rfl) de_int (at_nat (by decide) rfl))))))).t ?_) (fun h2 => retB (de_ixT (de_var 0 rfl) de_int (at_nat (by decide) rfl)) ?_) (fun h2 => nilB (dss_one (ds_ret de_int ?_)))
    · simp [eqv_place, eq_comm]
    · unfold priceOfHour
      rw [if_neg h1', if_pos (by simpa using h2)]
    · unfold priceOfHour
      rw [if_neg h1', if_neg (by simpa using h2)]
omit B GS GG in
theorem ways_len {h : Harbour} (hk : HOk h) (s : Ship) (p : Place) (hour : Int) : (waysOut h s p hour).length ≤ 10 := by
  unfold waysOut
  split
  · simp
  · split
    · rw [List.length_cons]
      split
      · rw [List.length_map]
        have := List.length_filter_le (fun q : Int × Nat => decide (s.length ≤ q.1)) h.berths.zipIdx
        rw [List.length_zipIdx] at this
        have := hk.bl
        omega
      · simp
    · rw [List.length_cons]
      split <;> simp
omit B GS GG in
theorem flat_le {α β : Type} (f : α → List β) (n : Nat) : ∀ xs : List α, (∀ x ∈ xs, (f x).length ≤ n) → (xs.flatMap f).length ≤ xs.length * n
  | [], _ => by simp
  | x :: xs, h => by
    rw [List.flatMap_cons, List.length_append, List.length_cons, Nat.succ_mul]
    have := h x (by simp)
    have := flat_le f n xs fun y hy => h y (by simp [hy])
    omega
def wayRows (h : Harbour) (s : Ship) (p : Place) (hour : Int) (rows : List Row) (w : Way) : List Row := (rows.filter (rowOk h s w)).map (rowNext s p hour w)
omit B GS GG in
theorem step_eq (h : Harbour) (s : Ship) (p : Place) (hour : Int) (rows : List Row) : stepRows h s p hour rows = (waysOut h s p hour).flatMap (wayRows h s p hour rows) := rfl
omit B GS GG in
theorem wayRows_len (h : Harbour) (s : Ship) (p : Place) (hour : Int) (rows : List Row) (w : Way) : (wayRows h s p hour rows w).length ≤ rows.length := by
  unfold wayRows
  rw [List.length_map]
  exact List.length_filter_le _ _
def rowsOf (h : Harbour) (hour : Int) (l : List (Ship × Place)) (rows : List Row) : List Row := l.foldl (fun rows q => stepRows h q.1 q.2 hour rows) rows
structure RowOk (n : Nat) (r : Row) : Prop where
  tk : r.taken.length ≤ n
  pl : r.places.length = n
omit B GS GG in
theorem rows_ok {h : Harbour} (hk : HOk h) (hour : Int) : ∀ (l : List (Ship × Place)) (rows : List Row) (n : Nat), (∀ r ∈ rows, RowOk n r) → (∀ r ∈ rowsOf h hour l rows, RowOk (n + l.length) r) ∧ (rowsOf h hour l rows).length ≤ 10 ^ l.length * rows.length
  | [], rows, n, hr => ⟨fun r h => hr r h, by simp [rowsOf]⟩
  | q :: l, rows, n, hr => by
    have h1 : ∀ r ∈ stepRows h q.1 q.2 hour rows, RowOk (n + 1) r := fun r hm => by
      rw [step_eq] at hm
      obtain ⟨w, _, hm⟩ := List.mem_flatMap.mp hm
      unfold wayRows at hm
      obtain ⟨r0, hm0, rfl⟩ := List.mem_map.mp hm
      obtain ⟨a, b⟩ := hr r0 (List.mem_filter.mp hm0).1
      refine ⟨?_, by show (r0.places ++ [w.1]).length = _; simp [b]⟩
      show (keptOf r0.taken w.2.1).length ≤ n + 1
      cases w.2.1 with
      | none => exact Nat.le_succ_of_le a
      | some b => simp [keptOf, a]
    have h2 : (stepRows h q.1 q.2 hour rows).length ≤ 10 * rows.length := by
      rw [step_eq]
      refine Nat.le_trans (flat_le _ rows.length _ fun w _ => wayRows_len h q.1 q.2 hour rows w) ?_
      exact Nat.mul_le_mul_right _ (ways_len hk _ _ _)
    obtain ⟨a, b⟩ := rows_ok hk hour l _ (n + 1) h1
    refine ⟨fun r hm => ?_, ?_⟩
    · have := a r hm
      rw [List.length_cons, show n + (l.length + 1) = n + 1 + l.length by omega]
      exact this
    · refine Nat.le_trans b ?_
      rw [List.length_cons, Nat.pow_succ, Nat.mul_assoc]
      exact Nat.mul_le_mul_left _ h2
omit B GS GG in
theorem lay_ints : ∀ ns : List Int, PyData.canLayAll0 (ns.map PyData.int) = true
  | [] => by rw [List.map_nil, PyData.canLayAll0]
  | n :: ns => by rw [List.map_cons, PyData.canLayAll0, PyData.canLay0, lay_ints ns]; rfl
omit B GS GG in
theorem shaped_ints (ns : List Int) : SeqAt.shaped (encIs ns) = true := by
  unfold SeqAt.shaped encIs
  rw [PyData.canLay0, lay_ints, Bool.true_and, decide_eq_true_eq, PyData.depth]
  have := depth_ints ns
  omega
omit B GS GG in
theorem free_eq (taken : List Int) (o : Option Int) : (!((taken.map PyData.int).any fun z => PyData.eqv z (encO o))) = freeOf taken o := by
  cases o with
  | none =>
    have : ((taken.map PyData.int).any fun z => PyData.eqv z (encO none)) = false := by
      rw [List.any_map, List.any_eq_false]
      intro x _
      simp [encO, PyData.eqv]
    rw [this]
    rfl
  | some b =>
    show (!((taken.map PyData.int).any fun z => PyData.eqv z (.int b))) = !taken.contains b
    congr 1
    rw [List.any_map, List.contains_eq_any_beq]
    congr 1
    funext x
    simp only [Function.comp, eqv_int]
    by_cases h : x = b
    · subst h; simp
    · simp [h, Ne.symm h]
omit B GS GG in
theorem shapedO (o : Option Int) : SeqAt.shaped (encO o) = true := by cases o <;> rfl
def encG (g : State × Int) : PyData := .tuple [encSt g.1, .int g.2]
def spGoings : DSpec := fun ds d => ∃ h ss st hour, HOk h ∧ ss.length ≤ 3 ∧ ss.length = st.length ∧ ds = [encH h, encSs ss, encSt st, .int hour] ∧ d = .list ((goings h ss st hour).map encG)
theorem F_goings (FW : DFn T 2 "ways_out" spWays) (FP : DFn T 1 "price_of_hour" spPHour) (D : DefAt T "goings_on" sGoings pGoings) : DFn T 3 "goings_on" spGoings := by
  refine dfn_of (N := nGoings) D scGoings stGoings (fun ds d h => ?_) (fun ds d h Z ok => ?_)
  · obtain ⟨h, ss, st, hour, _, _, _, rfl, rfl⟩ := h; rfl
  · obtain ⟨h, ss, st, hour, hk, h3, hl, rfl, rfl⟩ := h
    let r0 : List Row := [⟨[], 0, [], 0, 0⟩]
    let zs := ss.zip st
    have hz : zs.length = ss.length := by simp [zs, List.length_zip]; omega
    let rowsAt : Nat → List Row := fun i => rowsOf h hour (zs.take i) r0
    have rok : ∀ i, (∀ r ∈ rowsAt i, r.taken.length ≤ 3 ∧ r.places.length ≤ 3) ∧ (rowsAt i).length ≤ 1000 := fun i => by
      obtain ⟨a, b⟩ := rows_ok hk hour (zs.take i) r0 0 (fun r hr => by simp [r0] at hr; subst hr; exact ⟨Nat.le_refl _, rfl⟩)
      have hlt : (zs.take i).length ≤ 3 := by rw [List.length_take]; omega
      refine ⟨fun r hr => ⟨Nat.le_trans (a r hr).tk (by omega), by have := (a r hr).pl; omega⟩, Nat.le_trans b ?_⟩
      have : 10 ^ (zs.take i).length ≤ 10 ^ 3 := Nat.pow_le_pow_right (by decide) hlt
      simp only [r0, List.length_cons, List.length_nil]
      omega
    refine dss_cons (ds_asg (DN.e (dn_lst (das_cons (de_tup (das_cons (de_tup das_nil) (das_cons de_int (das_cons (DN.e (dn_lst das_nil)) (das_cons de_int (das_cons de_int das_nil)))))) das_nil))) (dg_name 4)) ?_
    refine dss_at [.dat (encH h), .dat (encSs ss), .dat (encSt st), dI hour, .dat (.list (r0.map encRow)), .unk, .unk, .unk, .unk, .unk, .unk, .unk, .unk, .unk, .unk, .unk, .unk, .unk, .unk, .unk] ?_
    refine dss_forC (fun i => [.dat (encH h), .dat (encSs ss), .dat (encSt st), dI hour, .dat (.list ((rowsAt i).map encRow)), .unk, .unk, .unk, .unk, .unk, .unk, .unk, .unk, .unk, .unk, .unk, .unk, .unk, .unk, .unk]) (by repeat constructor) (di_zipM B (de_var 1 rfl) (de_var 2 rfl) (by rw [List.length_map, List.length_map]; exact hl)) (fun i d hd => ?_) ?_
    · rw [zipD_map, List.getElem?_map] at hd
      obtain ⟨x, hx, rfl⟩ := Option.map_eq_some_iff.mp hd
      obtain ⟨s, p⟩ := x
      have rx : rowsAt (i + 1) = stepRows h s p hour (rowsAt i) := take_fold (fun rows (q : Ship × Place) => stepRows h q.1 q.2 hour rows) r0 hx
      obtain ⟨rk1, rk2⟩ := rok i
      generalize hrows : rowsAt i = rows at rx rk1 rk2
      refine ⟨_, _, dg_tup (dgs_cons (dg_name 5) (dgs_cons (dg_name 6) dgs_nil)), [.dat (encH h), .dat (encSs ss), .dat (encSt st), dI hour, .dat (.list ((rowsAt (i + 1)).map encRow)), .dat (encS s), .dat (encP p), .dat (.list ((rowsAt (i + 1)).map encRow)), .unk, .unk, .unk, .unk, .unk, .unk, .unk, .unk, .unk, .unk, .unk, .unk], ?_, by rw [rx]; exact .keep (.keep (.keep (.keep (.keep (.drop (.drop (.drop (.keep (.keep (.keep (.keep (.keep (.keep (.keep (.keep (.keep (.keep (.keep (.keep .nil)))))))))))))))))))⟩
      refine dss_cons (ds_new 7 (dn_lst das_nil)) ?_
      refine dss_at [.dat (encH h), .dat (encSs ss), .dat (encSt st), dI hour, .dat (.list (rows.map encRow)), .dat (encS s), .dat (encP p), .own [], .unk, .unk, .unk, .unk, .unk, .unk, .unk, .unk, .unk, .unk, .unk, .unk] ?_
      let ws := waysOut h s p hour
      have wl : ws.length ≤ 10 := ways_len hk s p hour
      let F := wayRows h s p hour rows
      refine dss_forC (fun j => [.dat (encH h), .dat (encSs ss), .dat (encSt st), dI hour, .dat (.list (rows.map encRow)), .dat (encS s), .dat (encP p), .own (((ws.take j).flatMap F).map encRow), .unk, .unk, .unk, .unk, .unk, .unk, .unk, .unk, .unk, .unk, .unk, .unk]) (by repeat constructor) (di_list (de_call FW (das_cons (de_var 0 rfl) (das_cons (de_var 5 rfl) (das_cons (de_var 6 rfl) (das_cons (de_var 3 rfl) das_nil)))) ⟨h, s, p, hour, hk, rfl, rfl⟩)) (fun j d hd => ?_) ?_
      · rw [List.getElem?_map] at hd
        obtain ⟨w, hw, rfl⟩ := Option.map_eq_some_iff.mp hd
        obtain ⟨later, bo, mv⟩ := w
        have hbase : ((ws.take j).flatMap F).length ≤ 10000 := by
          refine Nat.le_trans (flat_le F 1000 _ fun w _ => Nat.le_trans (wayRows_len h s p hour rows w) rk2) ?_
          rw [List.length_take]
          omega
        have hfl : (ws.take (j + 1)).flatMap F = (ws.take j).flatMap F ++ F (later, bo, mv) := take_flatMap F hw
        generalize (ws.take j).flatMap F = base at hbase hfl
        rw [hfl]
        refine ⟨_, _, dg_tup (dgs_cons (dg_name 8) (dgs_cons (dg_name 9) (dgs_cons (dg_name 10) dgs_nil))), [.dat (encH h), .dat (encSs ss), .dat (encSt st), dI hour, .dat (.list (rows.map encRow)), .dat (encS s), .dat (encP p), .own ((base ++ F (later, bo, mv)).map encRow), .dat (encP later), .dat (encO bo), .dat (.bool mv), dI (priceOfHour s p later hour), .unk, .unk, .unk, .unk, .unk, .unk, .unk, .unk], ?_, .keep (.keep (.keep (.keep (.keep (.keep (.keep (.keep (.drop (.drop (.drop (.drop (.keep (.keep (.keep (.keep (.keep (.keep (.keep (.keep .nil)))))))))))))))))))⟩
        refine dss_cons (ds_asg (de_call FP (das_cons (de_var 5 rfl) (das_cons (de_var 6 rfl) (das_cons (de_var 8 rfl) (das_cons (de_var 3 rfl) das_nil)))) ⟨s, p, later, hour, rfl, rfl⟩) (dg_name 11)) ?_
        refine dss_at [.dat (encH h), .dat (encSs ss), .dat (encSt st), dI hour, .dat (.list (rows.map encRow)), .dat (encS s), .dat (encP p), .own (base.map encRow), .dat (encP later), .dat (encO bo), .dat (.bool mv), dI (priceOfHour s p later hour), .unk, .unk, .unk, .unk, .unk, .unk, .unk, .unk] ?_
        let ff := rowOk h s (later, bo, mv)
        let nx := rowNext s p hour (later, bo, mv)
        refine dss_forC (fun k => [.dat (encH h), .dat (encSs ss), .dat (encSt st), dI hour, .dat (.list (rows.map encRow)), .dat (encS s), .dat (encP p), .own ((base ++ ((rows.take k).filter ff).map nx).map encRow), .dat (encP later), .dat (encO bo), .dat (.bool mv), dI (priceOfHour s p later hour), .unk, .unk, .unk, .unk, .unk, .unk, .unk, .unk]) (by rw [List.take_zero, List.filter_nil, List.map_nil, List.append_nil]; repeat constructor) (di_list (de_var 4 rfl)) (fun k d hd => ?_) ?_
        · rw [List.getElem?_map] at hd
          obtain ⟨r, hr, rfl⟩ := Option.map_eq_some_iff.mp hd
          obtain ⟨hrt, hrp⟩ := rk1 r (List.mem_of_getElem? hr)
          have hpre : (base ++ ((rows.take k).filter ff).map nx).length ≤ 20000 := by
            rw [List.length_append, List.length_map]
            have := List.length_filter_le ff (rows.take k)
            rw [List.length_take] at this
            omega
          have hacc : base ++ ((rows.take (k + 1)).filter ff).map nx = (base ++ ((rows.take k).filter ff).map nx) ++ (if ff r = true then [nx r] else []) := by
            rw [take_filter ff hr, List.map_append, List.append_assoc]
            congr 2
            by_cases hf : ff r = true
            · rw [if_pos hf, if_pos hf]; rfl
            · rw [if_neg hf, if_neg hf]; rfl
          rw [hacc]
          generalize (base ++ ((rows.take k).filter ff).map nx) = acc at hpre
          refine ⟨_, _, dg_tup (dgs_cons (dg_name 12) (dgs_cons (dg_name 13) (dgs_cons (dg_name 14) (dgs_cons (dg_name 15) (dgs_cons (dg_name 16) dgs_nil))))), [.dat (encH h), .dat (encSs ss), .dat (encSt st), dI hour, .dat (.list (rows.map encRow)), .dat (encS s), .dat (encP p), .own ((acc ++ if ff r = true then [nx r] else []).map encRow), .dat (encP later), .dat (encO bo), .dat (.bool mv), dI (priceOfHour s p later hour), .dat (encSt r.places), dI r.cost, .dat (encIs r.taken), dI r.tugs, dI r.pilots, dI (r.tugs + b2 mv * s.need), .unk, .unk], ?_, .keep (.keep (.keep (.keep (.keep (.keep (.keep (.keep (.keep (.keep (.keep (.keep (.drop (.drop (.drop (.drop (.drop (.drop (.keep (.keep .nil)))))))))))))))))))⟩
          have eb : (if mv then (1 : Int) else 0) = b2 mv := rfl
          refine dss_cons (ds_asg (de_add (de_var 15 rfl) (de_mul (de_intB B (de_var 10 rfl)) (de_ixT (de_var 5 rfl) de_int (at_nat (by decide) rfl)) (.inl ⟨by cases mv <;> decide, by cases mv <;> decide⟩))) (dg_name 17)) ?_
          refine dss_at [.dat (encH h), .dat (encSs ss), .dat (encSt st), dI hour, .dat (.list (rows.map encRow)), .dat (encS s), .dat (encP p), .own (acc.map encRow), .dat (encP later), .dat (encO bo), .dat (.bool mv), dI (priceOfHour s p later hour), .dat (encSt r.places), dI r.cost, .dat (encIs r.taken), dI r.tugs, dI r.pilots, dI (r.tugs + b2 mv * s.need), .unk, .unk] ?_
          refine dss_if2 (x := ff r) (dt_eq (dw_and (dt_cmp (de_notIn (de_var 9 rfl) (de_var 14 rfl) rfl (shapedO bo) (shaped_ints r.taken))) (fun _ => dw_and (dt_cmp (de_le (de_var 17 rfl) (de_ixT (de_var 0 rfl) de_int (at_nat (by decide) rfl)))) (fun _ => dw_and1 (dt_cmp (de_le (de_add (de_var 16 rfl) (de_intB B (de_var 10 rfl))) (de_ixT (de_var 0 rfl) de_int (at_nat (by decide) rfl))))))).t (by rw [free_eq]; rfl)) (fun h5 => ?_) (fun h5 => nilB ?_)
          · rw [if_pos h5]
            refine ⟨_, dss_cons (ds_asg (d := encIs (keptOf r.taken bo)) (de_if (x := isNoneD (encO bo)) (dt_cmp (de_isN (de_var 9 rfl))) (fun e => ?_) (fun e => ?_)) (dg_name 18)) (dss_at [.dat (encH h), .dat (encSs ss), .dat (encSt st), dI hour, .dat (.list (rows.map encRow)), .dat (encS s), .dat (encP p), .own (acc.map encRow), .dat (encP later), .dat (encO bo), .dat (.bool mv), dI (priceOfHour s p later hour), .dat (encSt r.places), dI r.cost, .dat (encIs r.taken), dI r.tugs, dI r.pilots, dI (r.tugs + b2 mv * s.need), .dat (encIs (keptOf r.taken bo)), .unk] (dss_one (ds_append 7 rfl (de_tup (das_cons (de_tup (das_star (de_var 12 rfl) rfl (das_cons (de_var 8 rfl) das_nil)) (by simp; omega)) (das_cons (de_add (de_var 13 rfl) (de_var 11 rfl)) (das_cons (de_var 18 rfl) (das_cons (de_var 17 rfl) (das_cons (de_add (de_var 16 rfl) (de_intB B (de_var 10 rfl))) das_nil)))))) (by rw [List.length_map]; omega)))), dss_pre (r1 := _) ?_ dss_nil⟩
            · cases bo with
              | none => exact de_var 14 rfl
              | some b => cases e
            · cases bo with
              | none => cases e
              | some b =>
                refine de_to (DN.e (dn_lst (das_star (de_var 14 rfl) rfl (das_cons (de_var 9 rfl) das_nil)) (by simp; omega))) ?_
                simp [encIs, keptOf, encO]
            · have he : encRow (nx r) = .tuple [.tuple (r.places.map encP ++ [encP later]), .int (r.cost + priceOfHour s p later hour), encIs (keptOf r.taken bo), .int (r.tugs + b2 mv * s.need), .int (r.pilots + (if mv then 1 else 0))] := by
                show encRow (rowNext s p hour (later, bo, mv) r) = _
                simp only [encRow, rowNext, encSt, List.map_append, List.map_cons, List.map_nil]
                rfl
              rw [List.map_append, List.map_cons, List.map_nil, he]
              exact .keep (.keep (.keep (.keep (.keep (.keep (.keep (.keep (.keep (.keep (.keep (.keep (.keep (.keep (.keep (.keep (.keep (.keep (.drop (.keep .nil)))))))))))))))))))
          · rw [if_neg (by rw [h5]; decide), List.append_nil]
            exact dss_nil
        · exact dss_to dss_nil (by rw [List.length_map, List.take_length]; rfl)
      · refine dss_rel 7 (by rfl) (dss_at [.dat (encH h), .dat (encSs ss), .dat (encSt st), dI hour, .dat (.list (rows.map encRow)), .dat (encS s), .dat (encP p), .dat (.list ((stepRows h s p hour rows).map encRow)), .unk, .unk, .unk, .unk, .unk, .unk, .unk, .unk, .unk, .unk, .unk, .unk] (dss_to (dss_one (ds_asg (de_var 7 rfl) (dg_name 4))) (by rw [rx]; rfl)) (by
          show _ = [SV.dat (encH h), .dat (encSs ss), .dat (encSt st), dI hour, .dat (.list (rows.map encRow)), .dat (encS s), .dat (encP p), .dat (.list (((waysOut h s p hour).flatMap (wayRows h s p hour rows)).map encRow)), .unk, .unk, .unk, .unk, .unk, .unk, .unk, .unk, .unk, .unk, .unk, .unk]
          rw [List.length_map, List.take_length]
          rfl))
    · have hfin : rowsAt (zipD (List.map encS ss) (List.map encP st)).length = allRows h ss st hour := by
        show rowsOf h hour (zs.take _) r0 = _
        rw [zipD_length, List.length_map, List.length_map, ← List.length_zip, List.take_length]
        rfl
      rw [hfin]
      have hlen : (allRows h ss st hour).length ≤ 1000 := by rw [← hfin]; exact (rok _).2
      have e : (goings h ss st hour).map encG = (allRows h ss st hour).map fun r => .tuple [encSt r.places, .int r.cost] := by
        unfold goings
        rw [List.map_map]
        rfl
      rw [e]
      refine dss_one (ds_ret (DN.e (dn_lc [("places", 12), ("cost", 13), ("_", 19)] (di_list (de_var 4 rfl)) (by rw [List.length_map]; omega) (gives_map _ 0 fun j x hx => lct_all (dg_tup (dgs_cons (dg_name 12) (dgs_cons (dg_name 13) (dgs_cons (dg_name 19) (dgs_cons (dg_name 19) (dgs_cons (dg_name 19) dgs_nil)))))) (de_tup (das_cons (de_var 12 rfl) (das_cons (de_var 13 rfl) das_nil)))))) rfl)
end
end TW

/-! Plain facts: states, dicts by states. -/
namespace TW
/-! ### few states -/
def PlOk (p : Place) : Prop := p = SEA ∨ p = GONE ∨ (0 ≤ p.1 ∧ p.1 ≤ 1 ∧ 0 ≤ p.2 ∧ p.2 ≤ 46)
def plc (p : Place) : Nat := if p = SEA then 0 else if p = GONE then 1 else (2 + p.1 * 47 + p.2).toNat
theorem plc_lt {p : Place} (h : PlOk p) : plc p < 100 := by
  unfold plc
  split
  · omega
  · split
    · omega
    · rcases h with h | h | ⟨a, b, c, d⟩
      · contradiction
      · contradiction
      · omega
theorem plc_inj {p q : Place} (hp : PlOk p) (hq : PlOk q) (h : plc p = plc q) : p = q := by
  unfold plc at h
  by_cases p1 : p = SEA
  · rw [if_pos p1] at h
    by_cases q1 : q = SEA
    · rw [p1, q1]
    · rw [if_neg q1] at h
      by_cases q2 : q = GONE
      · rw [if_pos q2] at h; omega
      · rw [if_neg q2] at h
        rcases hq with z | z | ⟨a, b, c, d⟩
        · contradiction
        · contradiction
        · omega
  · rw [if_neg p1] at h
    by_cases p2 : p = GONE
    · rw [if_pos p2] at h
      by_cases q1 : q = SEA
      · rw [if_pos q1] at h; omega
      · rw [if_neg q1] at h
        by_cases q2 : q = GONE
        · rw [p2, q2]
        · rw [if_neg q2] at h
          rcases hq with z | z | ⟨a, b, c, d⟩
          · contradiction
          · contradiction
          · omega
    · rw [if_neg p2] at h
      rcases hp with z | z | ⟨a, b, c, d⟩
      · contradiction
      · contradiction
      · by_cases q1 : q = SEA
        · rw [if_pos q1] at h; omega
        · rw [if_neg q1] at h
          by_cases q2 : q = GONE
          · rw [if_pos q2] at h; omega
          · rw [if_neg q2] at h
            rcases hq with z | z | ⟨a', b', c', d'⟩
            · contradiction
            · contradiction
            · have e1 : p.1 = q.1 := by omega
              have e2 : p.2 = q.2 := by omega
              exact Prod.ext e1 e2
def StOk (n : Nat) (st : State) : Prop := st.length = n ∧ ∀ p ∈ st, PlOk p
def stc : State → Nat
  | [] => 0
  | p :: ps => plc p + 100 * stc ps
theorem stc_lt : ∀ {n : Nat} {st : State}, StOk n st → stc st < 100 ^ n
  | 0, [], _ => by decide
  | n, [], h => by
    have := h.1
    simp at this
    subst this
    decide
  | 0, p :: ps, h => by have := h.1; simp at this
  | n + 1, p :: ps, h => by
    have h1 := stc_lt (n := n) (st := ps) ⟨by have := h.1; simpa using this, fun q hq => h.2 q (by simp [hq])⟩
    have h2 := plc_lt (h.2 p (by simp))
    show plc p + 100 * stc ps < 100 ^ (n + 1)
    rw [Nat.pow_succ]
    omega
theorem stc_inj : ∀ {n : Nat} {s t : State}, StOk n s → StOk n t → stc s = stc t → s = t
  | _, [], [], _, _, _ => rfl
  | _, [], q :: qs, h, h', _ => by have a := h.1; have b := h'.1; rw [← a] at b; simp at b
  | _, p :: ps, [], h, h', _ => by have a := h.1; have b := h'.1; rw [← a] at b; simp at b
  | n, p :: ps, q :: qs, h, h', e => by
    have e' : plc p + 100 * stc ps = plc q + 100 * stc qs := e
    have h1 := plc_lt (h.2 p (by simp))
    have h2 := plc_lt (h'.2 q (by simp))
    have e1 : plc p = plc q := by omega
    have e2 : stc ps = stc qs := by omega
    have l1 : ps.length = n - 1 := by have := h.1; simp at this; omega
    have l2 : qs.length = n - 1 := by have := h'.1; simp at this; omega
    rw [plc_inj (h.2 p (by simp)) (h'.2 q (by simp)) e1, stc_inj (n := n - 1) ⟨l1, fun z hz => h.2 z (by simp [hz])⟩ ⟨l2, fun z hz => h'.2 z (by simp [hz])⟩ e2]
theorem nodup_lt : ∀ (n : Nat) (l : List Nat), l.Nodup → (∀ x ∈ l, x < n) → l.length ≤ n
  | 0, l, _, h => by
    cases l with
    | nil => simp
    | cons a l => exact absurd (h a (by simp)) (by omega)
  | n + 1, l, nd, h => by
    have h1 := nodup_lt n (l.erase n) (nd.erase n) fun x hx => by
      have hx' := h x (List.mem_of_mem_erase hx)
      have hne : x ≠ n := fun e => by
        subst e
        exact (List.Nodup.not_mem_erase nd) hx
      omega
    by_cases hm : n ∈ l
    · rw [List.length_erase_of_mem hm] at h1
      omega
    · rw [List.erase_of_not_mem hm] at h1
      omega
theorem few_states {l : List State} {n : Nat} (hn : n ≤ 3) (nd : l.Nodup) (h : ∀ s ∈ l, StOk n s) : l.length ≤ 1000000 := by
  have h1 := nodup_lt (100 ^ n) (l.map stc) (by
    rw [List.Nodup, List.pairwise_map]
    refine List.Pairwise.imp_of_mem (fun {a b} ha hb hne e => hne (stc_inj (h a ha) (h b hb) e)) nd) (fun x hx => by
    obtain ⟨s, hs, rfl⟩ := List.mem_map.mp hx
    exact stc_lt (h s hs))
  rw [List.length_map] at h1
  have : 100 ^ n ≤ 100 ^ 3 := Nat.pow_le_pow_right (by decide) hn
  omega
/-! ### the keys of a dict -/
section
variable {β : Type}
def keysA (m : List (State × β)) : List State := m.map (·.1)
theorem any_key (m : List (State × β)) (k : State) : (m.any fun p => decide (p.1 = k)) = decide (k ∈ keysA m) := by
  unfold keysA
  induction m with
  | nil => simp
  | cons p m ih =>
    rw [List.any_cons, ih, List.map_cons]
    by_cases h : p.1 = k
    · simp [h]
    · have : k ≠ p.1 := fun e => h e.symm
      simp [h, this]
theorem putA_keys (m : List (State × β)) (k : State) (v : β) : keysA (putA m k v) = if k ∈ keysA m then keysA m else keysA m ++ [k] := by
  unfold putA
  rw [any_key]
  by_cases h : k ∈ keysA m
  · rw [if_pos (by simpa using h), if_pos h]
    unfold keysA
    rw [List.map_map]
    refine List.map_congr_left fun p _ => ?_
    show (if p.1 = k then (p.1, v) else p).1 = p.1
    split <;> rfl
  · rw [if_neg (by simpa using h), if_neg h]
    unfold keysA
    rw [List.map_append]
    rfl
theorem putA_nodup {m : List (State × β)} {k : State} {v : β} (h : (keysA m).Nodup) : (keysA (putA m k v)).Nodup := by
  rw [putA_keys]
  split
  · exact h
  · next hk =>
    rw [List.nodup_append]
    refine ⟨h, by simp, ?_⟩
    intro a ha b hb e
    simp at hb
    subst hb
    subst e
    exact hk ha
theorem putA_mem {m : List (State × β)} {k s : State} {v : β} (h : s ∈ keysA (putA m k v)) : s = k ∨ s ∈ keysA m := by
  rw [putA_keys] at h
  split at h
  · exact .inr h
  · rcases List.mem_append.mp h with h | h
    · exact .inr h
    · simp at h; exact .inl h
theorem getA_none {m : List (State × β)} {k : State} : getA m k = none ↔ k ∉ keysA m := by
  unfold getA keysA
  rw [Option.map_eq_none_iff, List.find?_eq_none]
  constructor
  · intro h hk
    obtain ⟨p, hp, rfl⟩ := List.mem_map.mp hk
    exact h p hp (by simp)
  · intro h p hp e
    exact h (List.mem_map.mpr ⟨p, hp, by simpa using e⟩)
theorem getA_nil (k : State) : getA ([] : List (State × β)) k = none := rfl
theorem getA_cons (p : State × β) (m : List (State × β)) (k : State) : getA (p :: m) k = if p.1 = k then some p.2 else getA m k := by
  unfold getA
  rw [List.find?_cons]
  by_cases h : p.1 = k
  · rw [if_pos h]; simp [h]
  · rw [if_neg h]; simp [h]
theorem getA_map (m : List (State × β)) (k k' : State) (v : β) : getA (m.map fun p => if p.1 = k then (p.1, v) else p) k' = if k' = k then (getA m k).map fun _ => v else getA m k' := by
  induction m with
  | nil => simp [getA_nil]
  | cons p m ih =>
    rw [List.map_cons, getA_cons, ih, getA_cons, getA_cons]
    have e1 : (if p.1 = k then (p.1, v) else p).1 = p.1 := by split <;> rfl
    rw [e1]
    by_cases h1 : p.1 = k' <;> by_cases h2 : p.1 = k <;> by_cases h3 : k' = k <;> simp_all
theorem getA_append (m m' : List (State × β)) (k : State) : getA (m ++ m') k = (getA m k).orElse fun _ => getA m' k := by
  induction m with
  | nil => rfl
  | cons p m ih =>
    rw [List.cons_append, getA_cons, getA_cons, ih]
    by_cases h : p.1 = k <;> simp [h]
theorem getA_put (m : List (State × β)) (k k' : State) (v : β) : getA (putA m k v) k' = if k' = k then some v else getA m k' := by
  unfold putA
  rw [any_key]
  by_cases h : k ∈ keysA m
  · rw [if_pos (by simpa using h), getA_map]
    by_cases h3 : k' = k
    · rw [if_pos h3, if_pos h3]
      cases e : getA m k with
      | none => exact absurd h (getA_none.mp e)
      | some x => rfl
    · rw [if_neg h3, if_neg h3]
  · rw [if_neg (by simpa using h), getA_append, getA_cons, getA_nil]
    by_cases h3 : k' = k
    · subst h3
      rw [getA_none.mpr h]
      simp
    · rw [if_neg h3, if_neg (fun e => h3 e.symm)]
      cases getA m k' <;> rfl
end
end TW

/-! Walks: the dicts of the search. -/
namespace TW
open PySem PySem.Spec L2 DL
open PyProof.Rows hiding St
theorem ways_ok {h : Harbour} (hk : HOk h) {s : Ship} (sk : SOk s) {p : Place} (pk : PlOk p) {hour : Int} (h0 : 0 ≤ hour) (h1 : hour ≤ 40) : ∀ w ∈ waysOut h s p hour, PlOk w.1 := by
  intro w hw
  unfold waysOut at hw
  have a1 := sk.t0
  have a2 := sk.t1
  split at hw
  · simp at hw; subst hw; exact .inr (.inl rfl)
  · next g1 =>
    split at hw
    · rcases List.mem_cons.mp hw with rfl | hw
      · exact .inl rfl
      · split at hw
        · obtain ⟨q, hq, rfl⟩ := List.mem_map.mp hw
          have hq := (List.mem_filter.mp hq).1
          obtain ⟨i, hi⟩ := List.getElem?_of_mem hq
          obtain ⟨e1, e2⟩ := zi_get hi
          have := (List.getElem?_eq_some_iff.mp e1).1
          have := hk.bl
          refine .inr (.inr ⟨?_, ?_, ?_, ?_⟩) <;> simp only <;> omega
        · simp at hw
    · next g2 =>
      rcases pk with z | z | ⟨z1, z2, z3, z4⟩
      · contradiction
      · contradiction
      · rcases List.mem_cons.mp hw with rfl | hw
        · refine .inr (.inr ⟨z1, z2, ?_, ?_⟩) <;> simp only <;> omega
        · split at hw
          · simp at hw; subst hw; exact .inr (.inl rfl)
          · simp at hw
theorem rows_pl {h : Harbour} (hk : HOk h) {hour : Int} (h0 : 0 ≤ hour) (h1 : hour ≤ 40) : ∀ (l : List (Ship × Place)) (rows : List Row), (∀ q ∈ l, SOk q.1 ∧ PlOk q.2) → (∀ r ∈ rows, ∀ p ∈ r.places, PlOk p) → ∀ r ∈ rowsOf h hour l rows, ∀ p ∈ r.places, PlOk p
  | [], rows, _, hr => hr
  | q :: l, rows, hl, hr => by
    refine rows_pl hk h0 h1 l _ (fun z hz => hl z (by simp [hz])) fun r hm => ?_
    have hm : r ∈ (waysOut h q.1 q.2 hour).flatMap (wayRows h q.1 q.2 hour rows) := hm
    obtain ⟨w, hw, hm⟩ := List.mem_flatMap.mp hm
    unfold wayRows at hm
    obtain ⟨r0, hm0, rfl⟩ := List.mem_map.mp hm
    intro p hp
    have hp' : p ∈ r0.places ++ [w.1] := hp
    rcases List.mem_append.mp hp' with hp' | hp'
    · exact hr r0 (List.mem_filter.mp hm0).1 p hp'
    · simp at hp'
      subst hp'
      exact ways_ok hk (hl q (by simp)).1 (hl q (by simp)).2 h0 h1 w hw
theorem goings_ok {h : Harbour} (hk : HOk h) {ss : List Ship} (sk : SsOk ss) {st : State} (so : StOk ss.length st) {hour : Int} (h0 : 0 ≤ hour) (h1 : hour ≤ 40) : ∀ g ∈ goings h ss st hour, StOk ss.length g.1 := by
  intro g hg
  unfold goings at hg
  obtain ⟨r, hr, rfl⟩ := List.mem_map.mp hg
  have e : allRows h ss st hour = rowsOf h hour (ss.zip st) [⟨[], 0, [], 0, 0⟩] := rfl
  rw [e] at hr
  refine ⟨?_, rows_pl hk h0 h1 _ _ (fun q hq => ?_) (fun r hr => by simp at hr; subst hr; intro p hp; simp at hp) r hr⟩
  · have := ((rows_ok hk hour (ss.zip st) [⟨[], 0, [], 0, 0⟩] 0 (fun r hr => by simp at hr; subst hr; exact ⟨Nat.le_refl _, rfl⟩)).1 r hr).pl
    rw [this, List.length_zip, so.1]
    omega
  · have := List.of_mem_zip hq
    exact ⟨sk _ this.1, so.2 _ this.2⟩
theorem goings_len {h : Harbour} (hk : HOk h) {ss : List Ship} (h3 : ss.length ≤ 3) (st : State) (hour : Int) : (goings h ss st hour).length ≤ 1000 := by
  unfold goings
  rw [List.length_map]
  have := (rows_ok hk hour (ss.zip st) [⟨[], 0, [], 0, 0⟩] 0 (fun r hr => by simp at hr; subst hr; exact ⟨Nat.le_refl _, rfl⟩)).2
  refine Nat.le_trans this ?_
  have hl : (ss.zip st).length ≤ 3 := by rw [List.length_zip]; omega
  have := Nat.pow_le_pow_right (show 10 > 0 by decide) hl
  simp only [List.length_cons, List.length_nil]
  omega
/-- the keys are states of the ships, each once -/
def KOk {β : Type} (n : Nat) (m : List (State × β)) : Prop := (keysA m).Nodup ∧ ∀ s ∈ keysA m, StOk n s
theorem KOk.len {β : Type} {n : Nat} {m : List (State × β)} (hn : n ≤ 3) (h : KOk n m) : m.length ≤ 1000000 := by
  have := few_states hn h.1 h.2
  unfold keysA at this
  rwa [List.length_map] at this
theorem KOk.put {β : Type} {n : Nat} {m : List (State × β)} {k : State} {v : β} (h : KOk n m) (hk : StOk n k) : KOk n (putA m k v) :=
  ⟨putA_nodup h.1, fun s hs => (putA_mem hs).elim (fun e => e ▸ hk) (h.2 s)⟩
theorem KOk.relax1 {n : Nat} {m : List (State × Int)} {k : State} {c : Int} (h : KOk n m) (hk : StOk n k) : KOk n (relax1 m k c) := by
  unfold TW.relax1
  split
  · exact h.put hk
  · split
    · exact h.put hk
    · exact h
theorem KOk.relaxOne {n : Nat} {c : Int} : ∀ {gs : List (State × Int)} {m : List (State × Int)}, KOk n m → (∀ g ∈ gs, StOk n g.1) → KOk n (relaxOne c gs m)
  | [], m, h, _ => h
  | g :: gs, m, h, hg => KOk.relaxOne (gs := gs) (h.relax1 (hg g (by simp))) fun z hz => hg z (by simp [hz])
/-! ### states as keys -/
def plK (p : Place) : NestedKey := .tup [.num p.1, .num p.2]
def stKs (st : State) : List NestedKey := st.map plK
def stK (st : State) : NestedKey := .tup (stKs st)
theorem stKs_data : ∀ st : State, NestedKey.datas (stKs st) = st.map encP
  | [] => by simp [stKs, NestedKey.datas]
  | p :: ps => by
    have h := stKs_data ps
    unfold stKs at h ⊢
    rw [List.map_cons, List.map_cons, NestedKey.datas, h]
    simp [plK, NestedKey.data, NestedKey.datas, encP]
theorem stK_data (st : State) : (NestedKey.tup (stKs st)).data = encSt st := by
  rw [NestedKey.data, stKs_data]
  rfl
theorem plK_inj {p q : Place} (h : plK p = plK q) : p = q := by
  unfold plK at h
  simp at h
  exact Prod.ext h.1 h.2
theorem stK_inj {s t : State} (h : stK s = stK t) : s = t := by
  unfold stK stKs at h
  have h' : s.map plK = t.map plK := by simpa using h
  clear h
  induction s generalizing t with
  | nil => cases t with
    | nil => rfl
    | cons q qs => simp at h'
  | cons p ps ih => cases t with
    | nil => simp at h'
    | cons q qs =>
      simp only [List.map_cons, List.cons.injEq] at h'
      rw [plK_inj h'.1, ih h'.2]
theorem plK_depth (p : Place) : (plK p).depth ≤ 4 := by
  unfold plK
  simp [NestedKey.depth, NestedKey.depthAll]
theorem stK_depth (st : State) : (NestedKey.tup (stKs st)).depth ≤ 8 := by
  have : ∀ st : State, NestedKey.depthAll (stKs st) ≤ 4 := by
    intro st
    induction st with
    | nil => simp [stKs, NestedKey.depthAll]
    | cons p ps ih =>
      unfold stKs at ih ⊢
      rw [List.map_cons, NestedKey.depthAll]
      have := plK_depth p
      omega
  rw [NestedKey.depth]
  have := this st
  omega
section
variable {β : Type} (f : β → PyData)
def encA (m : List (State × β)) : List (NestedKey × PyData) := m.map fun p => (stK p.1, f p.2)
theorem getN_enc (m : List (State × β)) (s : State) : getN (encA f m) (.tup (stKs s)) = (getA m s).map f := by
  unfold getN encA getA
  rw [List.find?_map, Option.map_map, Option.map_map]
  have e : ((fun p : NestedKey × PyData => decide (p.1 = NestedKey.tup (stKs s))) ∘ fun p : State × β => (stK p.1, f p.2)) = fun p : State × β => decide (p.1 = s) := by
    funext p
    show decide (stK p.1 = stK s) = decide (p.1 = s)
    by_cases h : p.1 = s
    · simp [h]
    · have : ¬ stK p.1 = stK s := fun z => h (stK_inj z)
      simp [h, this]
  rw [e]
  rfl
theorem putN_enc (m : List (State × β)) (s : State) (v : β) : putN (encA f m) (.tup (stKs s)) (f v) = encA f (putA m s v) := by
  unfold putN
  rw [getN_enc, Option.isSome_map]
  unfold putA
  rw [any_key]
  by_cases h : s ∈ keysA m
  · have h1 : (getA m s).isSome = true := by
      cases e : getA m s with
      | none => exact absurd h (getA_none.mp e)
      | some x => rfl
    rw [if_pos h1, if_pos (by simpa using h)]
    unfold encA
    rw [List.map_map, List.map_map]
    refine List.map_congr_left fun p _ => ?_
    show (if stK p.1 = stK s then _ else _) = _
    by_cases hp : p.1 = s
    · have hp2 : stK p.1 = stK s := by rw [hp]
      simp [hp]
    · have hp2 : ¬ stK p.1 = stK s := fun z => hp (stK_inj z)
      rw [if_neg hp2]
      simp [hp]
  · have h1 : ¬ (getA m s).isSome = true := by
      rw [getA_none.mpr h]; simp
    rw [if_neg h1, if_neg (by simpa using h)]
    unfold encA
    rw [List.map_append]
    rfl
end
theorem relax1_eq (m : List (State × Int)) (b : State) (c : Int) : relax1 m b c = if (!(getA m b).isSome || decide (c < (getA m b).getD 0)) = true then putA m b c else m := by
  unfold relax1
  cases getA m b with
  | none => simp
  | some x => simp
theorem KOk.relaxAll {h : Harbour} (hk : HOk h) {ss : List Ship} (sk : SsOk ss) {now : Int} (h0 : 0 ≤ now) (h1 : now ≤ 40) : ∀ (costs m : List (State × Int)), (∀ s ∈ keysA costs, StOk ss.length s) → KOk ss.length m → KOk ss.length (costs.foldl (fun m p => TW.relaxOne p.2 (goings h ss p.1 now) m) m)
  | [], m, _, hm => hm
  | p :: ps, m, hc, hm => KOk.relaxAll hk sk h0 h1 ps _ (fun s hs => hc s (by unfold keysA at hs ⊢; simp [hs])) (KOk.relaxOne hm (goings_ok hk sk (hc p.1 (by unfold keysA; simp)) h0 h1))
theorem KOk.nil {β : Type} {n : Nat} : KOk n ([] : List (State × β)) := ⟨List.nodup_nil, fun s hs => by simp [keysA] at hs⟩
theorem KOk.costs {h : Harbour} (hk : HOk h) {ss : List Ship} (sk : SsOk ss) : ∀ (hs : List Int) (m : List (State × Int)), (∀ x ∈ hs, 0 ≤ x ∧ x ≤ 40) → KOk ss.length m → KOk ss.length (hs.foldl (fun m now => TW.relaxAll h ss now m) m)
  | [], m, _, hm => hm
  | x :: xs, m, hx, hm => KOk.costs hk sk xs _ (fun y hy => hx y (by simp [hy])) (KOk.relaxAll hk sk (hx x (by simp)).1 (hx x (by simp)).2 m [] hm.2 KOk.nil)
theorem sea_ok (ss : List Ship) : StOk ss.length (seaOf ss) := ⟨by simp [seaOf], fun p hp => by
  unfold seaOf at hp
  obtain ⟨_, _, rfl⟩ := List.mem_map.mp hp
  exact .inl rfl⟩
theorem done_ok (ss : List Ship) : StOk ss.length (doneOf ss) := ⟨by simp [doneOf], fun p hp => by
  unfold doneOf at hp
  obtain ⟨_, _, rfl⟩ := List.mem_map.mp hp
  exact .inr (.inl rfl)⟩
section
variable {T : Tx} (B : Blt T) (GS : GlobD T "AT_SEA" (encP SEA)) (GG : GlobD T "GONE" (encP GONE))
include B GS GG
def spCheap : DSpec := fun ds d => ∃ h ss st hour, HOk h ∧ SsOk ss ∧ ss.length ≤ 3 ∧ StOk ss.length st ∧ 0 ≤ hour ∧ hour ≤ 60 ∧ ds = [encH h, encSs ss, encSt st, .int hour] ∧ d = encO (cheapest h ss st hour)
theorem F_cheap (FG : DFn T 3 "goings_on" spGoings) (D : DefAt T "cheapest_to_end" sCheap pCheap) : DFn T 4 "cheapest_to_end" spCheap := by
  refine dfn_of (N := nCheap) D scCheap stCheap (fun ds d h => ?_) (fun ds d h Z ok => ?_)
  · obtain ⟨h, ss, st, hour, _, _, _, _, _, _, rfl, rfl⟩ := h; rfl
  · obtain ⟨h, ss, st, hour, hk, sk, h3, so, q0, q1, rfl, rfl⟩ := h
    have hl0 := hk.l0
    have hl1 := hk.l1
    let hs := rng hour (h.last + 1)
    let m0 : List (State × Int) := [(st, 0)]
    let mAt : Nat → List (State × Int) := fun i => (hs.take i).foldl (fun m now => relaxAll h ss now m) m0
    have hsb : ∀ x ∈ hs, 0 ≤ x ∧ x ≤ 40 := fun x hx => by
      obtain ⟨i, hi⟩ := List.getElem?_of_mem hx
      obtain ⟨e1, e2⟩ := rng_get hi
      omega
    have mok : ∀ i, KOk ss.length (mAt i) := fun i => KOk.costs hk sk _ _ (fun x hx => hsb x (List.mem_of_mem_take hx)) ⟨by simp [keysA, m0], fun s hs => by simp [keysA, m0] at hs; subst hs; exact so⟩
    refine dss_cons (ds_newD 4 (dm_one (de_to (de_var 2 rfl) (stK_data st).symm) de_int (stK_depth st))) ?_
    refine dss_cons (ds_asg (d := encSt (doneOf ss)) (de_to (de_tupleL B (DN.e (dn_lc [("_", 12)] (di_list (de_var 1 rfl)) (by rw [List.length_map]; omega) (gives_map (f := fun _ => encP GONE) _ 0 fun j x hx => lct_all (dg_name 12) (de_glob GG))))) (by unfold encSt doneOf; rw [List.map_map]; rfl)) (dg_name 5)) ?_
    refine dss_at [.dat (encH h), .dat (encSs ss), .dat (encSt st), dI hour, .ownd (encA PyData.int m0), .dat (encSt (doneOf ss)), .unk, .unk, .unk, .unk, .unk, .unk, .unk] ?_
    refine dss_frz 4 rfl ?_
    refine dss_at [.dat (encH h), .dat (encSs ss), .dat (encSt st), dI hour, .dat (dictD (encA PyData.int m0)), .dat (encSt (doneOf ss)), .unk, .unk, .unk, .unk, .unk, .unk, .unk] ?_
    refine dss_forC (fun i => [.dat (encH h), .dat (encSs ss), .dat (encSt st), dI hour, .dat (dictD (encA PyData.int (mAt i))), .dat (encSt (doneOf ss)), .unk, .unk, .unk, .unk, .unk, .unk, .unk]) (by repeat constructor) (di_range2 B (de_var 3 rfl) (de_add (de_ixT (de_var 0 rfl) de_int (at_nat (by decide) rfl)) de_int) (by omega) (by omega) (by omega) (by omega)) (fun i d hd => ?_) ?_
    · obtain ⟨hi1, rfl⟩ := rngD_get hd
      have hx : hs[i]? = some (hour + (i : Nat)) := by
        show (rng hour (h.last + 1))[i]? = _
        unfold rng
        rw [List.getElem?_map, List.getElem?_range (by omega)]
        rfl
      have mx : mAt (i + 1) = relaxAll h ss (hour + (i : Nat)) (mAt i) := take_fold (fun m now => relaxAll h ss now m) m0 hx
      have mo := mok i
      have hn := hsb _ (List.mem_of_getElem? hx)
      rw [mx]
      generalize mAt i = m at mo
      generalize hour + ((i : Nat) : Int) = now at hn
      refine ⟨_, _, dg_name 6, [.dat (encH h), .dat (encSs ss), .dat (encSt st), dI hour, .dat (dictD (encA PyData.int (relaxAll h ss now m))), .dat (encSt (doneOf ss)), dI now, .dat (dictD (encA PyData.int (relaxAll h ss now m))), .unk, .unk, .unk, .unk, .unk], ?_, .keep (.keep (.keep (.keep (.keep (.keep (.drop (.drop (.keep (.keep (.keep (.keep (.keep .nil))))))))))))⟩
      refine dss_cons (ds_newD 7 dm_nil) ?_
      let lAt : Nat → List (State × Int) := fun j => (m.take j).foldl (fun l p => relaxOne p.2 (goings h ss p.1 now) l) []
      have lok : ∀ j, KOk ss.length (lAt j) := fun j => KOk.relaxAll hk sk hn.1 hn.2 _ _ (fun s hs => mo.2 s (by
        unfold keysA at hs ⊢
        obtain ⟨p, hp, rfl⟩ := List.mem_map.mp hs
        exact List.mem_map.mpr ⟨p, List.mem_of_mem_take hp, rfl⟩)) KOk.nil
      refine dss_at [.dat (encH h), .dat (encSs ss), .dat (encSt st), dI hour, .dat (dictD (encA PyData.int m)), .dat (encSt (doneOf ss)), dI now, .ownd (encA PyData.int (lAt 0)), .unk, .unk, .unk, .unk, .unk] ?_
      refine dss_forC (fun j => [.dat (encH h), .dat (encSs ss), .dat (encSt st), dI hour, .dat (dictD (encA PyData.int m)), .dat (encSt (doneOf ss)), dI now, .ownd (encA PyData.int (lAt j)), .unk, .unk, .unk, .unk, .unk]) (by repeat constructor) (di_itN (de_var 4 rfl)) (fun j d hd => ?_) ?_
      · have hd' : ((m.map fun p => (stK p.1, PyData.int p.2)).map fun q => PyData.tuple [q.1.data, q.2])[j]? = some d := hd
        rw [List.map_map, List.getElem?_map] at hd'
        obtain ⟨p, hp, rfl⟩ := Option.map_eq_some_iff.mp hd'
        obtain ⟨pl, c⟩ := p
        have hpo : StOk ss.length pl := mo.2 _ (List.mem_map.mpr ⟨(pl, c), List.mem_of_getElem? hp, rfl⟩)
        have lx : lAt (j + 1) = relaxOne c (goings h ss pl now) (lAt j) := take_fold (fun l (p : State × Int) => relaxOne p.2 (goings h ss p.1 now) l) [] hp
        rw [lx]
        have lo := lok j
        generalize lAt j = l at lo
        have e1 : ((fun q : NestedKey × PyData => PyData.tuple [q.1.data, q.2]) ∘ fun p : State × Int => (stK p.1, PyData.int p.2)) (pl, c) = PyData.tuple [encSt pl, .int c] := by
          show PyData.tuple [(stK pl).data, .int c] = _
          rw [show (stK pl).data = encSt pl from stK_data pl]
        rw [e1]
        let gs := goings h ss pl now
        have go := goings_ok hk sk hpo hn.1 hn.2
        have kAt : ∀ k, KOk ss.length (relaxOne c (gs.take k) l) := fun k => KOk.relaxOne lo fun g hg => go g (List.mem_of_mem_take hg)
        refine ⟨_, _, dg_tup (dgs_cons (dg_name 8) (dgs_cons (dg_name 9) dgs_nil)), [.dat (encH h), .dat (encSs ss), .dat (encSt st), dI hour, .dat (dictD (encA PyData.int m)), .dat (encSt (doneOf ss)), dI now, .ownd (encA PyData.int (relaxOne c gs l)), .dat (encSt pl), dI c, .unk, .unk, .unk], ?_, .keep (.keep (.keep (.keep (.keep (.keep (.keep (.keep (.drop (.drop (.keep (.keep (.keep .nil))))))))))))⟩
        refine dss_at [.dat (encH h), .dat (encSs ss), .dat (encSt st), dI hour, .dat (dictD (encA PyData.int m)), .dat (encSt (doneOf ss)), dI now, .ownd (encA PyData.int l), .dat (encSt pl), dI c, .unk, .unk, .unk] ?_
        refine dss_forC (fun k => [.dat (encH h), .dat (encSs ss), .dat (encSt st), dI hour, .dat (dictD (encA PyData.int m)), .dat (encSt (doneOf ss)), dI now, .ownd (encA PyData.int (relaxOne c (gs.take k) l)), .dat (encSt pl), dI c, .unk, .unk, .unk]) (by repeat constructor) (di_list (de_call FG (das_cons (de_var 0 rfl) (das_cons (de_var 1 rfl) (das_cons (de_var 8 rfl) (das_cons (de_var 6 rfl) das_nil)))) ⟨h, ss, pl, now, hk, h3, hpo.1.symm, rfl, rfl⟩)) (fun k d hd => ?_) ?_
        · rw [List.getElem?_map] at hd
          obtain ⟨g, hg, rfl⟩ := Option.map_eq_some_iff.mp hd
          obtain ⟨b, pr⟩ := g
          have kx : relaxOne c (gs.take (k + 1)) l = relax1 (relaxOne c (gs.take k) l) b (c + pr) := take_fold (fun m (g : State × Int) => relax1 m g.1 (c + g.2)) l hg
          have ko := kAt k
          rw [kx, relax1_eq]
          generalize relaxOne c (gs.take k) l = t at ko
          refine ⟨_, _, dg_tup (dgs_cons (dg_name 10) (dgs_cons (dg_name 11) dgs_nil)), [.dat (encH h), .dat (encSs ss), .dat (encSt st), dI hour, .dat (dictD (encA PyData.int m)), .dat (encSt (doneOf ss)), dI now, .ownd (encA PyData.int (if (!(getA t b).isSome || decide (c + pr < (getA t b).getD 0)) = true then putA t b (c + pr) else t)), .dat (encSt pl), dI c, .dat (encSt b), dI pr, .unk], ?_, .keep (.keep (.keep (.keep (.keep (.keep (.keep (.keep (.keep (.keep (.drop (.drop (.keep .nil))))))))))))⟩
          refine dss_at [.dat (encH h), .dat (encSs ss), .dat (encSt st), dI hour, .dat (dictD (encA PyData.int m)), .dat (encSt (doneOf ss)), dI now, .ownd (encA PyData.int t), .dat (encSt pl), dI c, .dat (encSt b), dI pr, .unk] ?_
          refine dss_if2 (x := !(getA t b).isSome || decide (c + pr < (getA t b).getD 0)) (dt_eq (dw_or (dt_cmp (de_notInN (de_to (de_var 10 rfl) (stK_data b).symm) (dd_own 7 rfl) (stK_depth b))) (fun hx => dw_or1 (dt_cmp (de_lt (de_add (de_var 9 rfl) (de_var 11 rfl)) (de_getN (d := .int ((getA t b).getD 0)) (dd_own 7 rfl) (de_to (de_var 10 rfl) (stK_data b).symm) (stK_depth b) ?_))))).t (by rw [getN_enc, Option.isSome_map])) (fun h5 => ?_) (fun h5 => nilB ?_)
          · rw [getN_enc] at hx ⊢
            cases e : getA t b with
            | none => rw [e] at hx; cases hx
            | some y => rfl
          · rw [if_pos h5]
            refine ⟨_, dss_one (ds_put 7 rfl (de_add (de_var 9 rfl) (de_var 11 rfl)) (de_to (de_var 10 rfl) (stK_data b).symm) (stK_depth b) ?_), dss_to dss_nil ?_⟩
            · unfold encA
              rw [List.length_map]
              exact Nat.le_trans (ko.len h3) (by decide)
            · rw [putN_enc]
              rfl
          · rw [if_neg (by rw [h5]; decide)]
            exact dss_nil
        · exact dss_to dss_nil (by rw [List.length_map, List.take_length])
      · have hfin : lAt (List.map (fun q : NestedKey × PyData => PyData.tuple [q.1.data, q.2]) (encA PyData.int m)).length = relaxAll h ss now m := by
          show (m.take _).foldl _ [] = _
          rw [List.length_map]
          unfold encA
          rw [List.length_map, List.take_length]
          rfl
        rw [hfin]
        refine dss_frz 7 rfl ?_
        exact dss_to (dss_one (ds_asg (de_var 7 rfl) (dg_name 4))) rfl
    · have hfin : mAt (rngD hour (h.last + 1)).length = costsTo h ss st hour := by
        show (hs.take _).foldl _ m0 = _
        rw [rngD_length, ← rng_len, List.take_length]
        rfl
      rw [hfin]
      refine dss_one (ds_ret (de_get1 (dd_data (de_var 4 rfl)) (de_to (de_var 5 rfl) (stK_data (doneOf ss)).symm) (stK_depth _) rfl) ?_)
      rw [getN_enc]
      unfold cheapest
      cases getA (costsTo h ss st hour) (doneOf ss) <;> rfl
end
end TW

/-! Walks: the table of rests. -/
namespace TW
open PySem PySem.Spec L2 DL
open PyProof.Rows hiding St
/-! ### plain -/
def POk (n : Nat) (l : List State) : Prop := l.Nodup ∧ ∀ s ∈ l, StOk n s
theorem insK_ok {n : Nat} {l : List State} {s : State} (h : POk n l) (hs : StOk n s) : POk n (insK l s) := by
  unfold insK
  split
  · exact h
  · next hn =>
    refine ⟨?_, fun t ht => ?_⟩
    · rw [List.nodup_append]
      refine ⟨h.1, by simp, ?_⟩
      intro a ha b hb e
      simp at hb
      subst hb; subst e
      exact hn ha
    · rcases List.mem_append.mp ht with ht | ht
      · exact h.2 t ht
      · simp at ht; subst ht; exact hs
theorem insG_ok {n : Nat} : ∀ {gs : List (State × Int)} {l : List State}, POk n l → (∀ g ∈ gs, StOk n g.1) → POk n (gs.foldl (fun l g => insK l g.1) l)
  | [], l, h, _ => h
  | g :: gs, l, h, hg => insG_ok (gs := gs) (insK_ok h (hg g (by simp))) fun z hz => hg z (by simp [hz])
theorem behind_ok {n : Nat} : ∀ {rows : Rows} {l : List State}, POk n l → (∀ q ∈ rows, ∀ g ∈ q.2, StOk n g.1) → POk n (rows.foldl (fun l q => q.2.foldl (fun l g => insK l g.1) l) l)
  | [], l, h, _ => h
  | q :: rows, l, h, hq => behind_ok (rows := rows) (insG_ok h (hq q (by simp))) fun z hz => hq z (by simp [hz])
def stepW (h : Harbour) (ss : List Ship) (q : List Rows × List State) (hour : Int) : List Rows × List State := (q.1 ++ [layerOf h ss hour q.2], behindAll (layerOf h ss hour q.2))
theorem waysFrom_eq (h : Harbour) (ss : List Ship) : ∀ (hs : List Int) (q : List Rows × List State), waysFrom h ss hs q = hs.foldl (stepW h ss) q
  | [], q => by cases q; rfl
  | x :: xs, (ws, ps) => by
    rw [waysFrom, List.foldl_cons, waysFrom_eq]
    rfl
/-- a layer: the places once each, the options good states -/
structure LOk (n : Nat) (rows : Rows) : Prop where
  ks : KOk n rows
  gs : ∀ q ∈ rows, (∀ g ∈ q.2, StOk n g.1) ∧ q.2.length ≤ 1000
theorem layer_ok {h : Harbour} (hk : HOk h) {ss : List Ship} (sk : SsOk ss) (h3 : ss.length ≤ 3) {hour : Int} (h0 : 0 ≤ hour) (h1 : hour ≤ 40) {ps : List State} (hp : POk ss.length ps) : LOk ss.length (layerOf h ss hour ps) := by
  have e : keysA (layerOf h ss hour ps) = ps := by
    unfold keysA layerOf
    rw [List.map_map]
    exact List.map_id' ps
  refine ⟨⟨by rw [e]; exact hp.1, by rw [e]; exact hp.2⟩, fun q hq => ?_⟩
  unfold layerOf at hq
  obtain ⟨s, hs, rfl⟩ := List.mem_map.mp hq
  exact ⟨goings_ok hk sk (hp.2 s hs) h0 h1, goings_len hk h3 s hour⟩
theorem stepW_ok {h : Harbour} (hk : HOk h) {ss : List Ship} (sk : SsOk ss) (h3 : ss.length ≤ 3) : ∀ (hs : List Int) (q : List Rows × List State), (∀ x ∈ hs, 0 ≤ x ∧ x ≤ 40) → (∀ rows ∈ q.1, LOk ss.length rows) ∧ POk ss.length q.2 → (∀ rows ∈ (hs.foldl (stepW h ss) q).1, LOk ss.length rows) ∧ POk ss.length (hs.foldl (stepW h ss) q).2 ∧ (hs.foldl (stepW h ss) q).1.length = q.1.length + hs.length
  | [], q, _, hq => ⟨hq.1, hq.2, by simp⟩
  | x :: xs, q, hx, hq => by
    have hl := layer_ok hk sk h3 (hx x (by simp)).1 (hx x (by simp)).2 hq.2
    have h5 : ∀ rows ∈ (stepW h ss q x).1, LOk ss.length rows := fun rows hr => by
      rcases List.mem_append.mp (show rows ∈ q.1 ++ [layerOf h ss x q.2] from hr) with hr | hr
      · exact hq.1 rows hr
      · simp at hr; subst hr; exact hl
    obtain ⟨a, b, c⟩ := stepW_ok hk sk h3 xs (stepW h ss q x) (fun y hy => hx y (by simp [hy])) ⟨h5, behind_ok ⟨List.nodup_nil, fun s hs => by simp at hs⟩ fun z hz g hg => (hl.gs z hz).1 g hg⟩
    refine ⟨a, b, ?_⟩
    rw [List.foldl_cons, c]
    show (q.1 ++ [layerOf h ss x q.2]).length + xs.length = _
    simp only [List.length_append, List.length_cons, List.length_nil]
    omega
def foundStep (rest : List (State × Int)) (m : List (State × Int)) (q : State × List (State × Int)) : List (State × Int) := match minOf (costsOn rest q.2) with
  | none => m
  | some x => putA m q.1 x
theorem found_ok {n : Nat} (rest : List (State × Int)) : ∀ (rows : Rows) (m : List (State × Int)), (∀ q ∈ rows, StOk n q.1) → KOk n m → KOk n (rows.foldl (foundStep rest) m)
  | [], m, _, h => h
  | q :: rows, m, hq, h => by
    refine found_ok rest rows _ (fun z hz => hq z (by simp [hz])) ?_
    unfold foundStep
    split
    · exact h
    · exact h.put (hq q (by simp))
theorem minOf_spec {l : List Int} {m : Int} (h : minOf l = some m) : m ∈ l ∧ ∀ y ∈ l, m ≤ y := by
  have key : ∀ (xs : List Int) (a : Int), (xs.foldl min a = a ∨ xs.foldl min a ∈ xs) ∧ xs.foldl min a ≤ a ∧ ∀ y ∈ xs, xs.foldl min a ≤ y := by
    intro xs
    induction xs with
    | nil => intro a; simp
    | cons y ys ih =>
      intro a
      rw [List.foldl_cons]
      obtain ⟨h1, h2, h3⟩ := ih (min a y)
      refine ⟨?_, by omega, fun z hz => ?_⟩
      · rcases h1 with h1 | h1
        · rw [h1]
          by_cases hy : a ≤ y
          · left; omega
          · right; simp; left; omega
        · right; simp [h1]
      · rcases List.mem_cons.mp hz with rfl | hz
        · omega
        · exact h3 z hz
  cases l with
  | nil => cases h
  | cons x xs =>
    cases h
    obtain ⟨h1, h2, h3⟩ := key xs x
    refine ⟨?_, fun y hy => ?_⟩
    · rcases h1 with h1 | h1
      · rw [h1]; simp
      · simp [h1]
    · rcases List.mem_cons.mp hy with rfl | hy
      · exact h2
      · exact h3 y hy
theorem minOf_none {l : List Int} : minOf l = none ↔ l = [] := by cases l <;> simp [minOf]
/-! ### encodings -/
def keyU (l : List State) : List (State × Unit) := l.map fun s => (s, ())
def encT : Unit → PyData := fun _ => .bool true
theorem keyU_put (l : List State) (s : State) : putA (keyU l) s () = keyU (insK l s) := by
  have e : keysA (keyU l) = l := by unfold keysA keyU; rw [List.map_map]; exact List.map_id' l
  unfold putA insK
  rw [any_key, e]
  by_cases h : s ∈ l
  · rw [if_pos (by simpa using h), if_pos h]
    unfold keyU
    rw [List.map_map]
    refine List.map_congr_left fun t _ => ?_
    show (if t = s then (t, ()) else (t, ())) = _
    split <;> rfl
  · rw [if_neg (by simpa using h), if_neg h]
    unfold keyU
    rw [List.map_append]
    rfl
def encGs (gs : List (State × Int)) : PyData := .list (gs.map encG)
def encRows (rows : Rows) : PyData := dictD (encA encGs rows)
def encRest (m : List (State × Int)) : PyData := dictD (encA PyData.int m)
theorem fold_put {β : Type} (f : β → PyData) : ∀ (m acc : List (State × β)), (keysA (acc ++ m)).Nodup → foldN (encA f acc) (encA f m) = encA f (acc ++ m)
  | [], acc, _ => by rw [List.append_nil]; rfl
  | p :: m, acc, h => by
    have h1 : p.1 ∉ keysA acc := by
      unfold keysA at h ⊢
      rw [List.map_append, List.map_cons, List.nodup_append] at h
      intro hp
      exact h.2.2 _ hp _ (by simp) rfl
    have e : putN (encA f acc) (stK p.1) (f p.2) = encA f (acc ++ [p]) := by
      have := putN_enc f acc p.1 p.2
      unfold stK
      rw [this]
      congr 1
      unfold putA
      rw [any_key, if_neg (by simpa using h1)]
    show foldN (putN (encA f acc) (stK p.1) (f p.2)) (encA f m) = _
    rw [e, fold_put f m (acc ++ [p]) (by rw [List.append_assoc]; exact h), List.append_assoc]
    rfl
theorem gives_fm {α β : Type} {P : Nat → PyData → Option PyData → Prop} {enc : α → PyData} {g : α → Option β} {f : β → PyData} : ∀ (xs : List α) (i : Nat), (∀ j x, xs[j]? = some x → P (i + j) (enc x) ((g x).map f)) → Gives P i (xs.map enc) ((xs.filterMap g).map f)
  | [], _, _ => .nil
  | x :: xs, i, h => by
    have h0 := h 0 x rfl
    have ht := gives_fm (f := f) (g := g) xs (i + 1) fun j y hy => by
      have := h (j + 1) y (by simpa using hy)
      rw [show i + (j + 1) = i + 1 + j by omega] at this
      exact this
    cases e : g x with
    | none =>
      rw [e] at h0
      rw [List.filterMap_cons_none e]
      exact .no h0 ht
    | some y =>
      rw [e] at h0
      rw [List.filterMap_cons_some e]
      exact .yes h0 ht
theorem lct_opt {T : Tx} {C : CS T} {r r2 : Sls} {ix vs : List Nat} {tg elt : Expr} {ifs : List Expr} {d : PyData} {β : Type} {o : Option β} {f : β → PyData} (h1 : DG C tg (wipeS r vs) d r2 ix) (h3 : DTs C ifs r2 o.isSome) (h4 : ∀ y, o = some y → DE C elt r2 (f y)) (h2 : ∀ i ∈ ix, i ∈ vs := by decide) : LcTurn C tg elt ifs r vs d (o.map f) := by
  refine ⟨r2, ix, h1, h2, ?_⟩
  cases o with
  | none => exact h3
  | some y => exact ⟨h3, h4 y rfl⟩
section
variable {T : Tx} (B : Blt T) (GS : GlobD T "AT_SEA" (encP SEA)) (GG : GlobD T "GONE" (encP GONE))
include B GS GG
def spLeast : DSpec := fun ds d => ∃ h ss, HOk h ∧ SsOk ss ∧ ss.length ≤ 3 ∧ ds = [encH h, encSs ss] ∧ d = encO (leastOf h ss)
theorem F_least (FC : DFn T 4 "cheapest_to_end" spCheap) (D : DefAt T "least_of" sLeast pLeast) : DFn T 5 "least_of" spLeast := by
  refine dfn_of (N := nLeast) D scLeast stLeast (fun ds d h => ?_) (fun ds d h Z ok => ?_)
  · obtain ⟨h, ss, _, _, _, rfl, rfl⟩ := h; rfl
  · obtain ⟨h, ss, hk, sk, h3, rfl, rfl⟩ := h
    exact dss_one (ds_ret (de_call FC (das_cons (de_var 0 rfl) (das_cons (de_var 1 rfl) (das_cons (de_to (d' := encSt (seaOf ss)) (de_tupleL B (DN.e (dn_lc [("_", 2)] (di_list (de_var 1 rfl)) (by rw [List.length_map]; omega) (gives_map (f := fun _ => encP SEA) _ 0 fun j x hx => lct_all (dg_name 2) (de_glob GS))))) (by unfold encSt seaOf; rw [List.map_map]; rfl)) (das_cons de_int das_nil)))) ⟨h, ss, seaOf ss, 0, hk, sk, h3, sea_ok ss, by decide, by decide, rfl, rfl⟩) rfl)
def restStep (rests : List (List (State × Int))) (rows : Rows) : List (List (State × Int)) := foundOf (rests.getD 0 []) rows :: rests
def spRests : DSpec := fun ds d => ∃ h ss, HOk h ∧ SsOk ss ∧ ss.length ≤ 3 ∧ ds = [encH h, encSs ss] ∧ d = .list ((restTable h ss).map encRest)
theorem F_rests (FG : DFn T 3 "goings_on" spGoings) (D : DefAt T "rest_table" sRests pRests) : DFn T 4 "rest_table" spRests := by
  refine dfn_of (N := nRests) D scRests stRests (fun ds d h => ?_) (fun ds d h Z ok => ?_)
  · obtain ⟨h, ss, _, _, _, rfl, rfl⟩ := h; rfl
  · obtain ⟨h, ss, hk, sk, h3, rfl, rfl⟩ := h
    have hl0 := hk.l0
    have hl1 := hk.l1
    let hs := rng 0 (h.last + 1)
    have hsb : ∀ x ∈ hs, 0 ≤ x ∧ x ≤ 40 := fun x hx => by
      obtain ⟨i, hi⟩ := List.getElem?_of_mem hx
      obtain ⟨e1, e2⟩ := rng_get hi
      omega
    have hsl : hs.length ≤ 41 := by rw [rng_len]; omega
    let q0 : List Rows × List State := ([], [seaOf ss])
    let qAt : Nat → List Rows × List State := fun i => (hs.take i).foldl (stepW h ss) q0
    have qok : ∀ i, (∀ rows ∈ (qAt i).1, LOk ss.length rows) ∧ POk ss.length (qAt i).2 ∧ (qAt i).1.length ≤ 41 := fun i => by
      obtain ⟨a, b, c⟩ := stepW_ok hk sk h3 (hs.take i) q0 (fun x hx => hsb x (List.mem_of_mem_take hx)) ⟨fun rows hr => by simp [q0] at hr, by simp [q0], fun s hs => by simp [q0] at hs; subst hs; exact sea_ok ss⟩
      refine ⟨a, b, ?_⟩
      rw [c, List.length_take]
      simp only [q0, List.length_nil]
      omega
    have hmd : ∀ (ps : List State), (encA encT (keyU ps)).map (fun q => q.1.data) = ps.map encSt := fun ps => by
      unfold encA keyU
      rw [List.map_map, List.map_map]
      exact List.map_congr_left fun s _ => stK_data s
    refine dss_cons (ds_new 2 (dn_lst das_nil)) ?_
    refine dss_cons (ds_newD 4 (dm_one (de_to (d' := (NestedKey.tup (stKs (seaOf ss))).data) (de_tupleL B (DN.e (dn_lc [("_", 3)] (di_list (de_var 1 rfl)) (by rw [List.length_map]; omega) (gives_map (f := fun _ => encP SEA) _ 0 fun j x hx => lct_all (dg_name 3) (de_glob GS))))) (by rw [stK_data]; unfold encSt seaOf; rw [List.map_map]; rfl)) de_bl (stK_depth _))) ?_
    refine dss_frz 4 rfl ?_
    refine dss_at [.dat (encH h), .dat (encSs ss), .own ([] : List PyData), .unk, .dat (dictD (encA encT (keyU [seaOf ss]))), .unk, .unk, .unk, .unk, .unk, .unk, .unk, .unk, .unk] ?_
    refine dss_forC (fun i => [.dat (encH h), .dat (encSs ss), .own ((qAt i).1.map encRows), .unk, .dat (dictD (encA encT (keyU (qAt i).2))), .unk, .unk, .unk, .unk, .unk, .unk, .unk, .unk, .unk]) (by repeat constructor) (di_range1 B (de_add (de_ixT (de_var 0 rfl) de_int (at_nat (by decide) rfl)) de_int) (by omega) (by omega)) (fun i d hd => ?_) ?_
    · obtain ⟨hi1, rfl⟩ := rngD_get hd
      have hx : hs[i]? = some ((0 : Int) + ((i : Nat) : Int)) := by
        show (rng 0 (h.last + 1))[i]? = _
        unfold rng
        rw [List.getElem?_map, List.getElem?_range (by omega)]
        rfl
      have qx : qAt (i + 1) = stepW h ss (qAt i) ((0 : Int) + ((i : Nat) : Int)) := take_fold (stepW h ss) q0 hx
      obtain ⟨qo1, qo2, qo3⟩ := qok i
      have hn := hsb _ (List.mem_of_getElem? hx)
      rw [qx]
      generalize qAt i = q at qo1 qo2 qo3
      generalize (0 : Int) + ((i : Nat) : Int) = now at hn
      obtain ⟨ws, ps⟩ := q
      simp only at qo1 qo2 qo3
      let ly := layerOf h ss now ps
      have lo : LOk ss.length ly := layer_ok hk sk h3 hn.1 hn.2 qo2
      have pl : ps.length ≤ 1000000 := few_states h3 qo2.1 qo2.2
      show ∃ r2 ix, DG _ _ _ _ r2 ix ∧ ∃ r3, DSs _ _ r2 _ r3 ∧ Wk r3 [.dat (encH h), .dat (encSs ss), .own ((ws ++ [ly]).map encRows), .unk, .dat (dictD (encA encT (keyU (behindAll ly)))), .unk, .unk, .unk, .unk, .unk, .unk, .unk, .unk, .unk]
      refine ⟨_, _, dg_name 5, [.dat (encH h), .dat (encSs ss), .own ((ws ++ [ly]).map encRows), .unk, .dat (dictD (encA encT (keyU (behindAll ly)))), dI now, .unk, .dat (encRows ly), .unk, .unk, .unk, .unk, .unk, .unk], ?_, .keep (.keep (.keep (.keep (.keep (.drop (.keep (.drop (.keep (.keep (.keep (.keep (.keep (.keep .nil)))))))))))))⟩
      have hos : (encA encGs ly).length = ((encA encT (keyU ps)).map fun q => q.1.data).length := by
        unfold encA keyU
        show (((ps.map fun s => (s, goings h ss s now))).map _).length = _
        simp only [List.length_map]
      refine dss_cons (ds_newDc 7 [("state", 6)] (os := encA encGs ly) (di_keN (de_var 4 rfl)) (by rw [hmd, List.length_map]; exact pl) hos (fun j hj => ?_)) ?_
      · have hj2 : j < ps.length := by rw [hmd, List.length_map] at hj; exact hj
        have e1 : ((encA encT (keyU ps)).map fun q => q.1.data)[j] = encSt ps[j] := by
          have := congrArg (fun l => l[j]?) (hmd ps)
          simp only [List.getElem?_map] at this
          rw [List.getElem?_eq_getElem hj2] at this
          rw [← List.getElem?_map, List.getElem?_eq_getElem hj] at this
          exact Option.some.inj this
        have e2' : (encA encGs ly)[j]? = some (stK ps[j], encGs (goings h ss ps[j] now)) := by
          show ((ps.map fun s => (s, goings h ss s now)).map fun p => (stK p.1, encGs p.2))[j]? = _
          rw [List.getElem?_map, List.getElem?_map, List.getElem?_eq_getElem hj2]
          rfl
        obtain ⟨_, e2⟩ := List.getElem?_eq_some_iff.mp e2'
        rw [e1, e2]
        refine ⟨_, _, stKs ps[j], dg_name 6, by decide, rfl, de_to (de_var 6 rfl) (stK_data _).symm, stK_depth _, de_call FG (das_cons (de_var 0 rfl) (das_cons (de_var 1 rfl) (das_cons (de_var 6 rfl) (das_cons (de_var 5 rfl) das_nil)))) ⟨h, ss, ps[j], now, hk, h3, (qo2.2 _ (List.getElem_mem hj2)).1.symm, rfl, rfl⟩⟩
      refine dss_frz 7 (by rfl) ?_
      refine dss_at [.dat (encH h), .dat (encSs ss), .own (ws.map encRows), .unk, .dat (dictD (encA encT (keyU ps))), dI now, .unk, .dat (encRows ly), .unk, .unk, .unk, .unk, .unk, .unk] ?_ (by
        have e0 : foldN [] (encA encGs ly) = encA encGs ly := fold_put encGs ly [] lo.ks.1
        rw [e0]
        rfl)
      refine dss_cons (ds_append 2 rfl (de_var 7 rfl) (by rw [List.length_map]; omega)) ?_
      refine dss_cons (ds_newD 4 dm_nil) ?_
      refine dss_at [.dat (encH h), .dat (encSs ss), .own ((ws ++ [ly]).map encRows), .unk, .ownd (encA encT (keyU [])), dI now, .unk, .dat (encRows ly), .unk, .unk, .unk, .unk, .unk, .unk] ?_ (by rw [List.map_append]; rfl)
      let bAt : Nat → List State := fun j => (ly.take j).foldl (fun l q => q.2.foldl (fun l g => insK l g.1) l) []
      have bok : ∀ j, POk ss.length (bAt j) := fun j => behind_ok ⟨List.nodup_nil, fun s hs => by simp at hs⟩ fun z hz g hg => (lo.gs z (List.mem_of_mem_take hz)).1 g hg
      refine dss_forC (fun j => [.dat (encH h), .dat (encSs ss), .own ((ws ++ [ly]).map encRows), .unk, .ownd (encA encT (keyU (bAt j))), dI now, .unk, .dat (encRows ly), .unk, .unk, .unk, .unk, .unk, .unk]) (by repeat constructor) (di_vaN (de_var 7 rfl)) (fun j d hd => ?_) ?_
      · have hd' : ((ly.map fun p => (stK p.1, encGs p.2)).map fun q => q.2)[j]? = some d := hd
        rw [List.map_map, List.getElem?_map] at hd'
        obtain ⟨p, hp, rfl⟩ := Option.map_eq_some_iff.mp hd'
        obtain ⟨st, gs⟩ := p
        have go := lo.gs _ (List.mem_of_getElem? hp)
        have bx : bAt (j + 1) = gs.foldl (fun l g => insK l g.1) (bAt j) := take_fold (fun l (q : State × List (State × Int)) => q.2.foldl (fun l g => insK l g.1) l) [] hp
        have bo := bok j
        rw [bx]
        generalize bAt j = bs at bo
        show ∃ r2 ix, DG _ _ _ (encGs gs) r2 ix ∧ _
        refine ⟨_, _, dg_name 8, [.dat (encH h), .dat (encSs ss), .own ((ws ++ [ly]).map encRows), .unk, .ownd (encA encT (keyU (gs.foldl (fun l g => insK l g.1) bs))), dI now, .unk, .dat (encRows ly), .dat (encGs gs), .unk, .unk, .unk, .unk, .unk], ?_, .keep (.keep (.keep (.keep (.keep (.keep (.keep (.keep (.drop (.keep (.keep (.keep (.keep (.keep .nil)))))))))))))⟩
        refine dss_at [.dat (encH h), .dat (encSs ss), .own ((ws ++ [ly]).map encRows), .unk, .ownd (encA encT (keyU bs)), dI now, .unk, .dat (encRows ly), .dat (encGs gs), .unk, .unk, .unk, .unk, .unk] ?_
        refine dss_forC (fun k => [.dat (encH h), .dat (encSs ss), .own ((ws ++ [ly]).map encRows), .unk, .ownd (encA encT (keyU ((gs.take k).foldl (fun l g => insK l g.1) bs))), dI now, .unk, .dat (encRows ly), .dat (encGs gs), .unk, .unk, .unk, .unk, .unk]) (by repeat constructor) (di_list (de_var 8 rfl)) (fun k d hd => ?_) ?_
        · rw [List.getElem?_map] at hd
          obtain ⟨g, hg, rfl⟩ := Option.map_eq_some_iff.mp hd
          obtain ⟨b, pr⟩ := g
          have kx : (gs.take (k + 1)).foldl (fun l g => insK l g.1) bs = insK ((gs.take k).foldl (fun l g => insK l g.1) bs) b := take_fold (fun l (g : State × Int) => insK l g.1) bs hg
          have ko : POk ss.length ((gs.take k).foldl (fun l g => insK l g.1) bs) := insG_ok bo fun g hg => go.1 g (List.mem_of_mem_take hg)
          rw [kx]
          generalize (gs.take k).foldl (fun l g => insK l g.1) bs = t at ko
          refine ⟨_, _, dg_tup (dgs_cons (dg_name 9) (dgs_cons (dg_name 3) dgs_nil)), [.dat (encH h), .dat (encSs ss), .own ((ws ++ [ly]).map encRows), dI pr, .ownd (encA encT (keyU (insK t b))), dI now, .unk, .dat (encRows ly), .dat (encGs gs), .dat (encSt b), .unk, .unk, .unk, .unk], ?_, .keep (.keep (.keep (.drop (.keep (.keep (.keep (.keep (.keep (.drop (.keep (.keep (.keep (.keep .nil)))))))))))))⟩
          refine dss_at [.dat (encH h), .dat (encSs ss), .own ((ws ++ [ly]).map encRows), dI pr, .ownd (encA encT (keyU t)), dI now, .unk, .dat (encRows ly), .dat (encGs gs), .dat (encSt b), .unk, .unk, .unk, .unk] ?_
          refine dss_to (dss_one (ds_put 4 rfl de_bl (de_to (de_var 9 rfl) (stK_data b).symm) (stK_depth b) ?_)) ?_
          · unfold encA keyU
            rw [List.length_map, List.length_map]
            exact Nat.le_trans (few_states h3 ko.1 ko.2) (by decide)
          · have := putN_enc encT (keyU t) b ()
            rw [keyU_put] at this
            rw [← this]
            rfl
        · exact dss_to dss_nil (by rw [List.length_map, List.take_length])
      · have hfin : bAt (List.map (fun q : NestedKey × PyData => q.2) (encA encGs ly)).length = behindAll ly := by
          show (ly.take _).foldl _ [] = _
          unfold encA
          rw [List.length_map, List.length_map, List.take_length]
          rfl
        rw [hfin]
        exact dss_frz 4 rfl (dss_to dss_nil rfl)
    · have hfin : (qAt (rngD 0 (h.last + 1)).length).1 = waysAll h ss := by
        show ((hs.take _).foldl _ q0).1 = _
        rw [rngD_length, ← rng_len, List.take_length]
        unfold waysAll
        rw [waysFrom_eq]
      obtain ⟨wo1, _, wo3⟩ := qok (rngD 0 (h.last + 1)).length
      rw [hfin] at wo1 wo3 ⊢
      generalize hW : waysAll h ss = W at wo1 wo3
      have hr : restTable h ss = W.reverse.foldl restStep [[(doneOf ss, 0)]] := by rw [← hW]; rfl
      rw [hr]
      refine dss_rel 2 rfl ?_
      let R0 : List (List (State × Int)) := [[(doneOf ss, 0)]]
      refine dss_pre (r1 := [.dat (encH h), .dat (encSs ss), .dat (.list (W.map encRows)), .unk, .unk, .unk, .unk, .unk, .unk, .unk, .unk, .unk, .unk, .unk]) (.keep (.keep (.keep (.keep (.drop (.keep (.keep (.keep (.keep (.keep (.keep (.keep (.keep (.keep .nil)))))))))))))) ?_
      refine dss_cons (ds_asg (d := .list (R0.map encRest)) (DN.e (dn_lst (das_cons (dm_e (dm_one (de_to (d' := (NestedKey.tup (stKs (doneOf ss))).data) (de_tupleL B (DN.e (dn_lc [("_", 3)] (di_list (de_var 1 rfl)) (by rw [List.length_map]; omega) (gives_map (f := fun _ => encP GONE) _ 0 fun j x hx => lct_all (dg_name 3) (de_glob GG))))) (by rw [stK_data]; unfold encSt doneOf; rw [List.map_map]; rfl)) de_int (stK_depth _))) das_nil) (by simp [R0]))) (dg_name 10)) ?_
      let rAt : Nat → List (List (State × Int)) := fun i => (W.reverse.take i).foldl restStep R0
      have rok : ∀ (l : List Rows) (R : List (List (State × Int))), (l.foldl restStep R).length = R.length + l.length := fun l => by
        induction l with
        | nil => intro R; simp
        | cons a l ih =>
          intro R
          rw [List.foldl_cons, ih]
          show (foundOf _ a :: R).length + l.length = _
          simp only [List.length_cons]
          omega
      have rle : ∀ i, (rAt i).length ≤ 42 := fun i => by
        show ((W.reverse.take i).foldl restStep R0).length ≤ 42
        rw [rok, List.length_take, List.length_reverse]
        simp only [R0, List.length_cons, List.length_nil]
        omega
      have rpos : ∀ i, 0 < (rAt i).length := fun i => by
        show 0 < ((W.reverse.take i).foldl restStep R0).length
        rw [rok]
        simp only [R0, List.length_cons, List.length_nil]
        omega
      refine dss_at [.dat (encH h), .dat (encSs ss), .dat (.list (W.map encRows)), .unk, .unk, .unk, .unk, .unk, .unk, .unk, .dat (.list ((rAt 0).map encRest)), .unk, .unk, .unk] ?_
      refine dss_forC (fun i => [.dat (encH h), .dat (encSs ss), .dat (.list (W.map encRows)), .unk, .unk, .unk, .unk, .unk, .unk, .unk, .dat (.list ((rAt i).map encRest)), .unk, .unk, .unk]) (by repeat constructor) (di_list (DN.e (dn_rev (de_var 2 rfl)))) (fun i d hd => ?_) ?_
      · rw [← List.map_reverse, List.getElem?_map] at hd
        obtain ⟨rows, hrw, rfl⟩ := Option.map_eq_some_iff.mp hd
        have rx : rAt (i + 1) = restStep (rAt i) rows := take_fold restStep R0 hrw
        have lo := wo1 rows (List.mem_reverse.mp (List.mem_of_getElem? hrw))
        have ro := rle i
        have rp := rpos i
        rw [rx]
        generalize rAt i = rs at ro rp
        have hrest : (rs.map encRest)[0]? = some (encRest (rs.getD 0 [])) := by
          cases rs with
          | nil => simp at rp
          | cons a l => rfl
        let rest := rs.getD 0 []
        let fd := foundOf rest rows
        have rl : rows.length ≤ 1000000 := lo.ks.len h3
        refine ⟨_, _, dg_name 7, [.dat (encH h), .dat (encSs ss), .dat (.list (W.map encRows)), .unk, .unk, .unk, .unk, .dat (encRows rows), .unk, .unk, .dat (.list ((fd :: rs).map encRest)), .dat (encRest fd), .unk, .unk], ?_, .keep (.keep (.keep (.keep (.keep (.keep (.keep (.drop (.keep (.keep (.keep (.drop (.keep (.keep .nil)))))))))))))⟩
        refine dss_cons (ds_newD 11 dm_nil) ?_
        let fAt : Nat → List (State × Int) := fun j => (rows.take j).foldl (foundStep rest) []
        have fok : ∀ j, KOk ss.length (fAt j) := fun j => found_ok rest _ _ (fun q hq => lo.ks.2 _ (List.mem_map.mpr ⟨q, List.mem_of_mem_take hq, rfl⟩)) KOk.nil
        refine dss_at [.dat (encH h), .dat (encSs ss), .dat (.list (W.map encRows)), .unk, .unk, .unk, .unk, .dat (encRows rows), .unk, .unk, .dat (.list (rs.map encRest)), .ownd (encA PyData.int (fAt 0)), .unk, .unk] ?_
        refine dss_forC (fun j => [.dat (encH h), .dat (encSs ss), .dat (.list (W.map encRows)), .unk, .unk, .unk, .unk, .dat (encRows rows), .unk, .unk, .dat (.list (rs.map encRest)), .ownd (encA PyData.int (fAt j)), .unk, .unk]) (by repeat constructor) (di_itN (de_var 7 rfl)) (fun j d hd => ?_) ?_
        · have hd' : ((rows.map fun p => (stK p.1, encGs p.2)).map fun q => PyData.tuple [q.1.data, q.2])[j]? = some d := hd
          rw [List.map_map, List.getElem?_map] at hd'
          obtain ⟨p, hp, rfl⟩ := Option.map_eq_some_iff.mp hd'
          obtain ⟨st, gs⟩ := p
          have go := lo.gs _ (List.mem_of_getElem? hp)
          have fx : fAt (j + 1) = foundStep rest (fAt j) (st, gs) := take_fold (foundStep rest) [] hp
          have fo := fok j
          rw [fx]
          generalize fAt j = f at fo
          have e1 : ((fun q : NestedKey × PyData => PyData.tuple [q.1.data, q.2]) ∘ fun p : State × List (State × Int) => (stK p.1, encGs p.2)) (st, gs) = PyData.tuple [encSt st, encGs gs] := by
            show PyData.tuple [(stK st).data, encGs gs] = _
            rw [show (stK st).data = encSt st from stK_data st]
          rw [e1]
          let cs := costsOn rest gs
          have cl : cs.length ≤ 1000 := Nat.le_trans (List.length_filterMap_le _ _) go.2
          refine ⟨_, _, dg_tup (dgs_cons (dg_name 6) (dgs_cons (dg_name 8) dgs_nil)), [.dat (encH h), .dat (encSs ss), .dat (.list (W.map encRows)), .unk, .unk, .unk, .dat (encSt st), .dat (encRows rows), .dat (encGs gs), .unk, .dat (.list (rs.map encRest)), .ownd (encA PyData.int (foundStep rest f (st, gs))), .dat (.list (cs.map PyData.int)), .unk], ?_, .keep (.keep (.keep (.keep (.keep (.keep (.drop (.keep (.drop (.keep (.keep (.keep (.drop (.keep .nil)))))))))))))⟩
          have g2 : gs.length ≤ 1000 := go.2
          refine dss_cons (ds_newLc 12 [("behind", 9), ("price", 13)] (its := gs.map encG) (ys := cs.map PyData.int) (di_list (de_var 8 rfl)) (by rw [List.length_map]; omega) (gives_fm (g := fun g : State × Int => (getA rest g.1).map fun x => g.2 + x) gs 0 fun k g hg => ?_)) ?_
          · obtain ⟨b, pr⟩ := g
            have hget : getN (encA PyData.int rest) (.tup (stKs b)) = (getA rest b).map PyData.int := getN_enc PyData.int rest b
            refine lct_opt (dg_tup (dgs_cons (dg_name 9) (dgs_cons (dg_name 13) dgs_nil))) (dts_eq (dts_one (dt_cmp (de_inN (de_to (de_var 9 rfl) (stK_data b).symm) (dd_data (de_ixL (de_var 10 rfl) de_int (at_nat (by decide) hrest))) (stK_depth b)))) (by rw [hget, Option.isSome_map, Option.isSome_map])) fun y hy => ?_
            obtain ⟨x, hx, rfl⟩ := Option.map_eq_some_iff.mp hy
            exact de_add (de_var 13 rfl) (de_getN (dd_data (de_ixL (de_var 10 rfl) de_int (at_nat (by decide) hrest))) (de_to (de_var 9 rfl) (stK_data b).symm) (stK_depth b) (by rw [hget, hx]; rfl))
          · refine dss_rel 12 rfl ?_
            refine dss_at [.dat (encH h), .dat (encSs ss), .dat (.list (W.map encRows)), .unk, .unk, .unk, .dat (encSt st), .dat (encRows rows), .dat (encGs gs), .unk, .dat (.list (rs.map encRest)), .ownd (encA PyData.int f), .dat (.list (cs.map PyData.int)), .unk] ?_
            cases hm : minOf cs with
            | none =>
              have e : foundStep rest f (st, gs) = f := by
                unfold foundStep
                show (match minOf cs with | none => f | some x => putA f st x) = f
                rw [hm]
              rw [e]
              have hc : cs = [] := minOf_none.mp hm
              exact dss_if2 (dt_list (de_var 12 rfl)) (fun z => by rw [hc] at z; cases z) (fun _ => nilB dss_nil)
            | some mn =>
              have e : foundStep rest f (st, gs) = putA f st mn := by
                unfold foundStep
                show (match minOf cs with | none => f | some x => putA f st x) = _
                rw [hm]
              rw [e]
              obtain ⟨m1, m2⟩ := minOf_spec hm
              refine dss_if2 (dt_list (de_var 12 rfl)) (fun _ => ⟨_, dss_one (ds_put 11 rfl (de_minL B (de_var 12 rfl) m1 m2) (de_to (de_var 6 rfl) (stK_data st).symm) (stK_depth st) ?_), dss_to dss_nil ?_⟩) (fun z => ?_)
              · unfold encA
                rw [List.length_map]
                exact Nat.le_trans (fo.len h3) (by decide)
              · rw [putN_enc]
                rfl
              · cases hcs : cs with
                | nil => rw [hcs] at m1; simp at m1
                | cons a l => rw [hcs] at z; cases z
        · have hfin : fAt (List.map (fun q : NestedKey × PyData => PyData.tuple [q.1.data, q.2]) (encA encGs rows)).length = fd := by
            show (rows.take _).foldl _ [] = _
            unfold encA
            rw [List.length_map, List.length_map, List.take_length]
            rfl
          rw [hfin]
          refine dss_frz 11 rfl ?_
          refine dss_to (dss_one (ds_asg (DN.e (dn_lst (das_cons (de_var 11 rfl) (das_star (de_var 10 rfl) rfl das_nil)) (by simp; omega))) (dg_name 10))) ?_
          rw [List.map_cons, List.append_nil]
          rfl
      · have hfin : rAt (List.map encRows W).reverse.length = W.reverse.foldl restStep R0 := by
          show (W.reverse.take _).foldl _ _ = _
          rw [List.length_reverse, List.length_map, ← List.length_reverse, List.take_length]
        rw [hfin]
        exact dss_one (ds_ret (de_var 10 rfl) rfl)
end
end TW

/-! Walks: state_behind, parting, order_of. -/
namespace TW
open PySem PySem.Spec L2 DL
open PyProof.Rows hiding St
theorem part_out {f : Nat → Int} {least : Int} : ∀ {cs : List Int} {i k : Nat} {s : Int}, k < cs.length → (∀ j, j < k → ¬ least < s + (cs.take (j + 1)).sum + f (i + j)) → least < s + (cs.take (k + 1)).sum + f (i + k) → partFrom f least i s cs = some (i + k)
  | [], _, _, _, h, _, _ => by simp at h
  | c :: cs, i, 0, s, _, _, h => by
    have h' : least < s + c + f i := by simpa using h
    rw [partFrom, if_pos h']
    rfl
  | c :: cs, i, k + 1, s, hk, hn, h => by
    have h0 := hn 0 (by omega)
    have h0' : ¬ least < s + c + f i := by simpa using h0
    have key := part_out (f := f) (least := least) (cs := cs) (i := i + 1) (k := k) (s := s + c) (by simpa using hk) (fun j hj => by
      have := hn (j + 1) (by omega)
      rw [List.take_succ_cons, List.sum_cons] at this
      rw [show i + 1 + j = i + (j + 1) by omega]
      intro z
      exact this (by omega)) (by
      rw [List.take_succ_cons, List.sum_cons] at h
      rw [show i + 1 + k = i + (k + 1) by omega]
      omega)
    rw [partFrom, if_neg h0', key]
    congr 1; omega
theorem part_none {f : Nat → Int} {least : Int} : ∀ {cs : List Int} {i : Nat} {s : Int}, (∀ j, j < cs.length → ¬ least < s + (cs.take (j + 1)).sum + f (i + j)) → partFrom f least i s cs = none
  | [], _, _, _ => rfl
  | c :: cs, i, s, hn => by
    have h0' : ¬ least < s + c + f i := by simpa using hn 0 (by simp)
    rw [partFrom, if_neg h0']
    refine part_none fun j hj => ?_
    have := hn (j + 1) (by simpa using hj)
    rw [List.take_succ_cons, List.sum_cons] at this
    rw [show i + 1 + j = i + (j + 1) by omega]
    intro z
    exact this (by omega)
def encN : Option Nat → PyData
  | none => .none
  | some i => .int (i : Nat)
section
variable {T : Tx} (B : Blt T) (GS : GlobD T "AT_SEA" (encP SEA)) (GG : GlobD T "GONE" (encP GONE))
include B GS GG
def spBehind : DSpec := fun ds d => ∃ ss p hour, p.length ≤ 1000 ∧ ds = [encSs ss, encPl p, .int hour] ∧ d = encSt (stateBehind ss p hour)
theorem F_behind (D : DefAt T "state_behind" sBehind pBehind) : DFn T 1 "state_behind" spBehind := by
  refine dfn_of (N := nBehind) D scBehind stBehind (fun ds d h => ?_) (fun ds d h Z ok => ?_)
  · obtain ⟨ss, p, hour, _, rfl, rfl⟩ := h; rfl
  · obtain ⟨ss, p, hour, hl, rfl, rfl⟩ := h
    refine dss_cons (ds_new 3 (dn_lst das_nil)) ?_
    let fn : Ship × Mv → PyData := fun q => encP (placeBehind q.1 q.2 hour)
    refine dss_at [.dat (encSs ss), .dat (encPl p), dI hour, .own [], .unk, .unk, .unk, .unk] ?_
    refine dss_forC (fun i => [.dat (encSs ss), .dat (encPl p), dI hour, .own (((ss.zip p).take i).map fn), .unk, .unk, .unk, .unk]) (by repeat constructor) (di_zip B (de_var 0 rfl) (de_var 1 rfl)) (fun i d hd => ?_) ?_
    · rw [zipD_map, List.getElem?_map] at hd
      obtain ⟨x, hx, rfl⟩ := Option.map_eq_some_iff.mp hd
      have hlt := (List.getElem?_eq_some_iff.mp hx).1
      have hz : (ss.zip p).length ≤ 1000 := by rw [List.length_zip]; omega
      have tx : ((ss.zip p).take (i + 1)).map fn = ((ss.zip p).take i).map fn ++ [fn x] := by
        obtain ⟨hi, e⟩ := List.getElem?_eq_some_iff.mp hx
        rw [List.take_succ_eq_append_getElem hi, List.map_append, e]
        rfl
      have tl : (((ss.zip p).take i).map fn).length ≤ 1000 := by rw [List.length_map, List.length_take]; omega
      obtain ⟨s, m⟩ := x
      rw [tx]
      generalize ((ss.zip p).take i).map fn = acc at tl
      refine ⟨_, _, dg_tup (dgs_cons (dg_name 4) (dgs_cons (dg_tup (dgs_cons (dg_name 5) (dgs_cons (dg_name 6) (dgs_cons (dg_name 7) dgs_nil)))) dgs_nil)), [.dat (encSs ss), .dat (encPl p), dI hour, .own (acc ++ [fn (s, m)]), .dat (encS s), dI m.1, dI m.2.1, dI m.2.2], ?_, .keep (.keep (.keep (.keep (.drop (.drop (.drop (.drop .nil)))))))⟩
      refine dss_at [.dat (encSs ss), .dat (encPl p), dI hour, .own acc, .dat (encS s), dI m.1, dI m.2.1, dI m.2.2] ?_
      have e0 : fn (s, m) = encP (if hour ≤ m.1 then SEA else if m.2.2 < hour then GONE else (m.2.1, max (m.1 + s.stay + 1) hour)) := rfl
      refine dss_if2 (dt_cmp (de_ge (de_var 5 rfl) (de_var 2 rfl))) (fun h1 => ⟨_, dss_one (ds_append 3 rfl (de_glob GS) (by omega)), dss_to dss_nil ?_⟩) (fun h1 => ⟨_, dss_if2 (r1 := [.dat (encSs ss), .dat (encPl p), dI hour, .own (acc ++ [fn (s, m)]), .dat (encS s), dI m.1, dI m.2.1, dI m.2.2]) (dt_cmp (de_lt (de_var 7 rfl) (de_var 2 rfl))) (fun h2 => ⟨_, dss_one (ds_append 3 rfl (de_glob GG) (by omega)), dss_to dss_nil ?_⟩) (fun h2 => ⟨_, dss_one (ds_append 3 rfl (de_tup (das_cons (de_var 6 rfl) (das_cons (de_max2 B (de_add (de_add (de_var 5 rfl) (de_ixT (de_var 4 rfl) de_int (at_nat (by decide) rfl))) de_int) (de_var 2 rfl)) das_nil))) (by omega)), dss_to dss_nil ?_⟩), dss_nil⟩)
      · rw [e0, if_pos (by simpa using h1)]; rfl
      · rw [e0, if_neg (by simpa using h1), if_pos (by simpa using h2)]; rfl
      · rw [e0, if_neg (by simpa using h1), if_neg (by simpa using h2)]; rfl
    · have hfin : ((ss.zip p).take (zipD (List.map encS ss) (List.map encM p)).length).map fn = (stateBehind ss p hour).map encP := by
        rw [zipD_length, List.length_map, List.length_map, ← List.length_zip, List.take_length]
        unfold stateBehind
        rw [List.map_map]
        rfl
      rw [hfin]
      exact dss_rel 3 rfl (dss_one (ds_ret (de_tupleL B (de_var 3 rfl)) rfl))
def RestsOk (h : Harbour) (ss : List Ship) (p : Plan) : Prop := ∀ i : Nat, i ≤ (hourCosts ss p).length → ∃ m x, (restTable h ss)[i]? = some m ∧ getA m (stateBehind ss p (i : Nat)) = some x
def spParting : DSpec := fun ds d => ∃ h ss p, HOk h ∧ SsOk ss ∧ ss.length ≤ 3 ∧ p ≠ [] ∧ (∀ m ∈ p, MOk m) ∧ p.length ≤ 3 ∧ RestsOk h ss p ∧ ds = [encH h, encSs ss, encPl p] ∧ d = encN (parting h ss p)
theorem F_parting (FR : DFn T 4 "rest_table" spRests) (FB : DFn T 1 "state_behind" spBehind) (FH : DFn T 1 "hour_costs" spHCosts) (D : DefAt T "parting" sParting pParting) : DFn T 5 "parting" spParting := by
  refine dfn_of (N := nParting) D scParting stParting (fun ds d h => ?_) (fun ds d h Z ok => ?_)
  · obtain ⟨h, ss, p, _, _, _, _, _, _, _, rfl, rfl⟩ := h; rfl
  · obtain ⟨h, ss, p, hk, sk, h3, hp0, hm, hp3, hr, rfl, rfl⟩ := h
    have rat : ∀ i : Nat, i ≤ (hourCosts ss p).length → ((restTable h ss).map encRest)[i]? = some (encRest ((restTable h ss).getD i [])) ∧ getN (encA PyData.int ((restTable h ss).getD i [])) (.tup (stKs (stateBehind ss p (i : Nat)))) = some (.int (restAt (restTable h ss) i (stateBehind ss p (i : Nat)))) := fun i hi => by
      obtain ⟨m, x, e1, e2⟩ := hr i hi
      have e3 : (restTable h ss).getD i [] = m := by rw [List.getD_eq_getElem?_getD, e1]; rfl
      refine ⟨by rw [List.getElem?_map, e1, e3]; rfl, ?_⟩
      rw [getN_enc]
      unfold restAt
      rw [e3, e2]
      rfl
    let rs := restTable h ss
    let f : Nat → Int := fun i => restAt rs (i + 1) (stateBehind ss p ((i : Int) + 1))
    let least := restAt rs 0 (stateBehind ss p 0)
    let cs := hourCosts ss p
    refine dss_cons (ds_asg (de_call FR (das_cons (de_var 0 rfl) (das_cons (de_var 1 rfl) das_nil)) ⟨h, ss, hk, sk, h3, rfl, rfl⟩) (dg_name 3)) ?_
    refine dss_cons (ds_asg (d := .int least) (de_getN (kvs := encA PyData.int (rs.getD 0 [])) (dd_data (de_ixL (de_var 3 rfl) de_int (at_nat (by decide) (rat 0 (Nat.zero_le _)).1))) (de_to (de_call FB (das_cons (de_var 1 rfl) (das_cons (de_var 2 rfl) (das_cons de_int das_nil))) ⟨ss, p, 0, by omega, rfl, rfl⟩) (stK_data _).symm) (stK_depth _) (rat 0 (Nat.zero_le _)).2) (dg_name 4)) ?_
    refine dss_cons (ds_asg de_int (dg_name 5)) ?_
    refine dss_at [.dat (encH h), .dat (encSs ss), .dat (encPl p), .dat (.list (rs.map encRest)), dI least, dI (0 + (cs.take 0).sum), .unk, .unk] ?_
    refine dss_forV (fun i => decide (least < 0 + (cs.take (i + 1)).sum + f (0 + i))) (fun i => [.dat (encH h), .dat (encSs ss), .dat (encPl p), .dat (.list (rs.map encRest)), dI least, dI (0 + (cs.take i).sum), .unk, .unk]) (by repeat constructor) (di_enum B (de_call FH (das_cons (de_var 1 rfl) (das_cons (de_var 2 rfl) das_nil)) ⟨ss, p, sk, hp0, hm, by omega, rfl, rfl⟩)) (fun i d hno hd => ?_) (fun hno => ?_)
    · obtain ⟨d', hd', rfl⟩ := enumD_get hd
      rw [List.getElem?_map] at hd'
      obtain ⟨c, hc, rfl⟩ := Option.map_eq_some_iff.mp hd'
      have hi := (List.getElem?_eq_some_iff.mp hc).1
      have hs : 0 + (cs.take i).sum + c = 0 + (cs.take (i + 1)).sum := by
        obtain ⟨h1, h2⟩ := List.getElem?_eq_some_iff.mp hc
        show 0 + ((hourCosts ss p).take i).sum + c = 0 + ((hourCosts ss p).take (i + 1)).sum
        rw [List.take_succ_eq_append_getElem h1, List.sum_append, h2, List.sum_cons, List.sum_nil]
        omega
      refine ⟨_, _, dg_tup (dgs_cons (dg_name 6) (dgs_cons (dg_name 7) dgs_nil)), [.dat (encH h), .dat (encSs ss), .dat (encPl p), .dat (.list (rs.map encRest)), dI least, dI (0 + (cs.take (i + 1)).sum), dI (i : Nat), dI c], ?_, .keep (.keep (.keep (.keep (.keep (.keep (.drop (.drop .nil)))))))⟩
      refine dss_cons (ds_aug 5 rfl (de_var 7 rfl)) ?_
      refine dss_at [.dat (encH h), .dat (encSs ss), .dat (encPl p), .dat (.list (rs.map encRest)), dI least, dI (0 + (cs.take (i + 1)).sum), dI (i : Nat), dI c] ?_ (by rw [← hs]; rfl)
      have hr1 := rat (i + 1) hi
      have hcast : (((i : Nat) : Int) + 1) = ((i + 1 : Nat) : Int) := by omega
      have hf : f (0 + i) = restAt rs (i + 1) (stateBehind ss p ((i + 1 : Nat) : Int)) := by
        show restAt rs (0 + i + 1) (stateBehind ss p (((0 + i : Nat) : Int) + 1)) = _
        rw [Nat.zero_add, hcast]
      refine dss_if2 (x := decide (least < 0 + (cs.take (i + 1)).sum + f (0 + i))) (dt_cmp (de_gt (de_add (de_var 5 rfl) (de_getN (d := .int (f (0 + i))) (kvs := encA PyData.int (rs.getD (i + 1) [])) (dd_data (de_ixL (de_var 3 rfl) (de_add (de_var 6 rfl) de_int) (at_nat (by omega) (by rw [hcast, Int.toNat_natCast]; exact hr1.1)))) (de_to (de_call FB (das_cons (de_var 1 rfl) (das_cons (de_var 2 rfl) (das_cons (de_add (de_var 6 rfl) de_int) das_nil))) ⟨ss, p, ((i + 1 : Nat) : Int), by omega, by rw [hcast], rfl⟩) (stK_data _).symm) (stK_depth _) (by rw [hf]; exact hr1.2))) (de_var 4 rfl))) (fun h5 => retB (de_var 6 rfl) ?_) (fun h5 => nilB ?_)
      · have := part_out (f := f) (least := least) (cs := cs) (i := 0) (k := i) (s := 0) hi (fun j hj => by simpa using hno j hj) (by simpa using h5)
        have e : parting h ss p = some (0 + i) := this
        rw [e, Nat.zero_add]
        rfl
      · rw [h5]
        exact dss_nil
    · have := part_none (f := f) (least := least) (cs := cs) (i := 0) (s := 0) (fun j hj => by
        have := hno j (by rw [enumD_length, List.length_map]; exact hj)
        simpa using this)
      have e : parting h ss p = none := this
      rw [e]
      exact dss_one (ds_ret de_non rfl)
end
end TW

/-! Walks: order_of, the class Day. -/
namespace TW
open PySem PySem.Spec L2 DL
open PyProof.Rows hiding St
def rules : List String := ["first", "short", "dear", "shallow"]
def orderL (ss : List Ship) (rule : String) : List Int := ((orderRows ss rule).mergeSort fun a b => !ltI b a).map (·.2)
theorem alikeAll_enc {α : Type} {enc : α → PyData} (h : ∀ x y, PySem.W.alike (enc x) (enc y) = true) (xs : List α) : PySem.W.AllAlike (xs.map enc) := fun d hd d' hd' => by
  obtain ⟨x, _, rfl⟩ := List.mem_map.mp hd
  obtain ⟨y, _, rfl⟩ := List.mem_map.mp hd'
  exact h x y
theorem noDicts_pair : ∀ xs : List (Int × Int), noDicts (xs.map pairI) = true
  | [] => by rw [List.map_nil, noDicts]
  | x :: xs => by
    rw [List.map_cons, noDicts, noDicts_pair xs]
    simp [pairI, noDict, noDicts]
theorem depth_pair (p : Int × Int) : (pairI p).depth ≤ 6 := by
  unfold pairI
  simp [PyData.depth, PyData.depthAll]
section
variable {T : Tx} (B : Blt T)
include B
def spOrderOf : DSpec := fun ds d => ∃ ss rule, rule ∈ rules ∧ ss.length ≤ 1000 ∧ ds = [encSs ss, .str (Str.ofString rule)] ∧ d = encIs (orderL ss rule)
theorem F_orderOf (D : DefAt T "order_of" sOrderOf pOrderOf) : DFn T 1 "order_of" spOrderOf := by
  refine dfn_of (N := nOrderOf) D scOrderOf stOrderOf (fun ds d h => ?_) (fun ds d h Z ok => ?_)
  · obtain ⟨ss, rule, _, _, rfl, rfl⟩ := h; rfl
  · obtain ⟨ss, rule, hr, hl, rfl, rfl⟩ := h
    refine dss_cons (ds_new 2 (dn_lst das_nil)) ?_
    let fn : Ship × Nat → PyData := fun q => pairI (ruleKey rule q.1, (q.2 : Int))
    refine dss_at [.dat (encSs ss), .dat (.str (Str.ofString rule)), .own [], .unk, .unk, .unk, .unk, .unk, .unk, .unk] ?_
    refine dss_forC (fun i => [.dat (encSs ss), .dat (.str (Str.ofString rule)), .own ((ss.zipIdx.take i).map fn), .unk, .unk, .unk, .unk, .unk, .unk, .unk]) (by repeat constructor) (di_enum B (de_var 0 rfl)) (fun i d hd => ?_) ?_
    · rw [enumD_map, List.getElem?_map] at hd
      obtain ⟨x, hx, rfl⟩ := Option.map_eq_some_iff.mp hd
      have tx : (ss.zipIdx.take (i + 1)).map fn = (ss.zipIdx.take i).map fn ++ [fn x] := by
        obtain ⟨hi, e⟩ := List.getElem?_eq_some_iff.mp hx
        rw [List.take_succ_eq_append_getElem hi, List.map_append, e]
        rfl
      have tl : ((ss.zipIdx.take i).map fn).length ≤ 1000 := by rw [List.length_map, List.length_take, List.length_zipIdx]; omega
      obtain ⟨s, n⟩ := x
      rw [tx]
      generalize (ss.zipIdx.take i).map fn = acc at tl
      refine ⟨_, _, dg_tup (dgs_cons (dg_name 3) (dgs_cons (dg_tup (dgs_cons (dg_name 4) (dgs_cons (dg_name 5) (dgs_cons (dg_name 6) (dgs_cons (dg_name 7) (dgs_cons (dg_name 5) (dgs_cons (dg_name 8) (dgs_cons (dg_name 5) dgs_nil)))))))) dgs_nil)), [.dat (encSs ss), .dat (.str (Str.ofString rule)), .own (acc ++ [fn (s, n)]), dI (n : Nat), dI s.ready, dI s.lie, dI s.draught, dI s.stay, dI s.sea, dI (ruleKey rule s)], ?_, .keep (.keep (.keep (.drop (.drop (.drop (.drop (.drop (.drop (.drop .nil)))))))))⟩
      refine dss_at [.dat (encSs ss), .dat (.str (Str.ofString rule)), .own acc, dI (n : Nat), dI s.ready, dI s.lie, dI s.draught, dI s.stay, dI s.sea, .unk] ?_
      refine dss_cons (ds_asg (d := .int (ruleKey rule s)) (de_txt (kvs := [("first", s.ready), ("short", s.stay), ("dear", -s.sea), ("shallow", s.draught)]) (dps_cons de_str (de_var 4 rfl) (dps_cons de_str (de_var 7 rfl) (dps_cons de_str (de_neg (de_var 8 rfl)) (dps_cons de_str (de_var 6 rfl) dps_nil)))) (de_var 1 rfl) ?_ (by simp)) (dg_name 9)) ?_
      · simp only [rules, List.mem_cons, List.not_mem_nil, or_false] at hr
        rcases hr with rfl | rfl | rfl | rfl <;> rfl
      · refine dss_at [.dat (encSs ss), .dat (.str (Str.ofString rule)), .own acc, dI (n : Nat), dI s.ready, dI s.lie, dI s.draught, dI s.stay, dI s.sea, dI (ruleKey rule s)] ?_
        exact dss_to (dss_one (ds_append 2 rfl (de_tup (das_cons (de_var 9 rfl) (das_cons (de_var 3 rfl) das_nil))) (by omega))) rfl
    · have hfin : (ss.zipIdx.take (enumD (List.map encS ss)).length).map fn = (orderRows ss rule).map pairI := by
        rw [enumD_length, List.length_map, ← List.length_zipIdx, List.take_length]
        unfold orderRows
        rw [List.map_map]
        rfl
      have hol : (orderRows ss rule).length ≤ 1000 := by unfold orderRows; rw [List.length_map, List.length_zipIdx]; exact hl
      rw [hfin]
      refine dss_rel 2 rfl (dss_one (ds_ret (DN.e (dn_lc [("_", 5), ("name", 3)] (di_list (de_to (de_sortedD B (de_var 2 rfl) (noDicts_pair _) (alikeAll_enc alike_pair _) (.inl fun d hd => ?_) (fun d hd => ?_)) (congrArg PyData.list (sorted_enc lt_pair (orderRows ss rule))))) (by rw [List.length_map, List.length_mergeSort]; omega) (gives_map (f := fun p : Int × Int => PyData.int p.2) _ 0 fun j x hx => lct_all (dg_tup (dgs_cons (dg_name 5) (dgs_cons (dg_name 3) dgs_nil))) (de_var 3 rfl)))) ?_))
      · obtain ⟨x, _, rfl⟩ := List.mem_map.mp hd
        exact ⟨_, _, rfl⟩
      · obtain ⟨x, _, rfl⟩ := List.mem_map.mp hd
        exact depth_pair x
      · show PyData.list _ = encIs (orderL ss rule)
        unfold encIs orderL
        rw [List.map_map]
        rfl
end
end TW

/-! Walks: the class Day. -/
namespace TW
open PySem PySem.Spec L2 DL
open PyProof.Rows hiding St
def encD : DMv → PyData
  | .sea => .tuple [.none, .none, .none]
  | .lie f b => .tuple [.int f, .int b, .none]
  | .gone f b o => .tuple [.int f, .int b, .int o]
def dayF (h : Harbour) (ss : List Ship) (m : Addr) (st : DSt) : List (Str × FV) := [("harbour", .d (encH h)), ("ships", .d (encSs ss)), ("moves", .l m (st.moves.map encD)), ("tugs", .d (.int st.tugs)), ("pilots", .d (.int st.pilots))]
def dayNs : List Str := ["harbour", "ships", "moves", "tugs", "pilots"]
/-- the moves are one for each ship -/
structure DOk (h : Harbour) (ss : List Ship) (st : DSt) : Prop where
  hk : HOk h
  sk : SsOk ss
  ml : st.moves.length = ss.length
  s3 : ss.length ≤ 3
section
variable {T : Tx} (B : Blt T) {Cc : Addr} (K : ClsD T Cc dayNs)
include B K
omit B in
theorem ship_ix {C : CS T} {r : Sls} {e i : Expr} {pos : Pos} {ss : List Ship} {k : Nat} (h : DE C e r (encSs ss)) (hi : DE C i r (.int (k : Nat))) (hk : k < ss.length) (hs : PlainIx i := by intro _ _; rfl) : DE C (.Subscript e i pos) r (encS (ss.getD k noShip)) := de_ixL h hi (at_nat (by omega) (ship_get hk)) hs
def canS : RSpec := fun ds fs d => ∃ h ss m st i hour, DOk h ss st ∧ i < ss.length ∧ ds = [.int (i : Nat), .int hour] ∧ fs = dayF h ss m st ∧ d = .bool (canMove h ss st i hour)
theorem F_can (F1 : DFn T 1 "depth_at" spDepth) (D : MethAt T Cc "can_move" "Day.can_move" sDCan pDCan) : RFn T Cc 2 "can_move" canS := by
  refine rfn_of (N := nDCan) D scDCan stDCan (fun ds fs d h => ?_) (fun a dx ds fs d h Z ok => ?_)
  · obtain ⟨h, ss, m, st, i, hour, _, _, rfl, rfl, rfl⟩ := h; rfl
  · obtain ⟨h, ss, m, st, i, hour, ho, hi, rfl, rfl, rfl⟩ := h
    let P := (insP T Cc a dx (dayF h ss m st)).asG
    refine dss_cons (ds_asg (ship_ix K (de_fld 0 K (.inr rfl) rfl) (de_var 1 rfl) hi) (dg_name 3)) ?_
    refine dss_at [P, dI (i : Nat), dI hour, .dat (encS (ss.getD i noShip))] ?_
    exact dss_one (ds_ret (de_andV (de_ge (de_call F1 (das_cons (de_fld 0 K (.inr rfl) rfl) (das_cons (de_var 2 rfl) das_nil)) ⟨h, hour, ho.hk, rfl, rfl⟩) (de_ixT (de_var 3 rfl) de_int (at_nat (by decide) rfl))) fun _ => de_andV (de_le (de_ixT (de_var 3 rfl) de_int (at_nat (by decide) rfl)) (de_fld 0 K (.inr rfl) rfl)) fun _ => de_one (de_gt (de_fld 0 K (.inr rfl) rfl) de_int)) rfl)
def spendS : MSpec := fun ds fs fs' => ∃ h ss m st i, DOk h ss st ∧ i < ss.length ∧ ds = [.int ((i : Nat) : Int)] ∧ fs = dayF h ss m st ∧ fs' = dayF h ss m ⟨st.moves, st.tugs - (ss.getD i noShip).need, st.pilots - 1⟩
theorem F_spend (D : MethAt T Cc "spend" "Day.spend" sDSpend pDSpend) : MFn T Cc 1 "spend" spendS := by
  refine mfn_of (N := nDSpend) D scDSpend stDSpend (fun ds fs fs' h => ?_) (fun a dx ds fs fs' h Z ok => ?_)
  · obtain ⟨h, ss, m, st, i, _, _, rfl, rfl, rfl⟩ := h; rfl
  · obtain ⟨h, ss, m, st, i, ho, hi, rfl, rfl, rfl⟩ := h
    refine ⟨[.obj (insP T Cc a dx (dayF h ss m ⟨st.moves, st.tugs - (ss.getD i noShip).need, st.pilots - 1⟩)), dI (i : Nat)], rfl, ?_⟩
    refine dss_cons (ds_augF 0 K rfl (f := "tugs") (k := st.tugs) rfl (de_ixT (ship_ix K (de_fld 0 K (.inl rfl) rfl) (de_var 1 rfl) hi) de_int (at_nat (by decide) rfl)) (show (5 : Nat) < 900 by decide)) ?_
    refine dss_at [.obj (insP T Cc a dx (dayF h ss m ⟨st.moves, st.tugs - (ss.getD i noShip).need, st.pilots⟩)), dI (i : Nat)] ?_
    exact dss_to (dss_one (ds_augF 0 K rfl (f := "pilots") (k := st.pilots) rfl de_int (show (5 : Nat) < 900 by decide))) rfl
def lyingS : LSpec := fun fs ys => ∃ h ss m st, st.moves.length ≤ 3 ∧ fs = dayF h ss m st ∧ ys = (lyingOf st.moves).map fun i => .int (i : Nat)
omit B K in
theorem encD_eq (m : DMv) : ∃ a b c, encD m = .tuple [a, b, c] ∧ (!isNoneD a && isNoneD c) = isLie m := by
  cases m with
  | sea => exact ⟨_, _, _, rfl, rfl⟩
  | lie f b => exact ⟨_, _, _, rfl, rfl⟩
  | gone f b o => exact ⟨_, _, _, rfl, rfl⟩
theorem F_lying (D : MethAt T Cc "lying" "Day.lying" sDLying pDLying) : LFn T Cc 1 "lying" lyingS := by
  refine lfn_of (N := nDLying) D scDLying stDLying rfl rfl (fun a dx fs ys h Z ok => ?_)
  obtain ⟨h, ss, m, st, ho, rfl, rfl⟩ := h
  have hr : (lyingOf st.moves).map (fun i => PyData.int (i : Nat)) = (st.moves.zipIdx.filter fun p => isLie p.1).map fun q => .int (q.2 : Nat) := by
    unfold lyingOf
    rw [List.map_map]
    rfl
  rw [hr]
  refine dn_lc [("name", 1), ("first", 2), ("_", 3), ("out", 4)] (di_enum B (de_fldL 0 K rfl rfl)) (by rw [enumD_length, List.length_map]; omega) (by
    rw [enumD_map]
    refine gives_filter _ 0 fun j x hx => ?_
    obtain ⟨a, b, c, e1, e2⟩ := encD_eq x.1
    rw [e1]
    exact lct_if (dg_tup (dgs_cons (dg_name 1) (dgs_cons (dg_tup (dgs_cons (dg_name 2) (dgs_cons (dg_name 3) (dgs_cons (dg_name 4) dgs_nil)))) dgs_nil))) (dts_one (dw_and (dt_cmp (de_notN (de_var 2 rfl))) (fun _ => dw_and1 (dt_cmp (de_isN (de_var 4 rfl))))).t) (fun _ => de_var 1 rfl) e2)
omit B K in
theorem lexLt_ltI : lexLt = ltI := by
  funext a b
  unfold lexLt ltI
  by_cases h1 : a.1 < b.1 <;> by_cases h2 : a.1 = b.1 <;> by_cases h3 : a.2 < b.2 <;> simp [h1, h2, h3]
def berthS : RSpec := fun ds fs d => ∃ h ss m st i taken, DOk h ss st ∧ i < ss.length ∧ ds = [.int ((i : Nat) : Int), encIs taken] ∧ fs = dayF h ss m st ∧ d = encO (berthFor h (ss.getD i noShip) taken)
theorem F_berth (D : MethAt T Cc "berth_for" "Day.berth_for" sDBerth pDBerth) : RFn T Cc 1 "berth_for" berthS := by
  refine rfn_of (N := nDBerth) D scDBerth stDBerth (fun ds fs d h => ?_) (fun a dx ds fs d h Z ok => ?_)
  · obtain ⟨h, ss, m, st, i, taken, _, _, rfl, rfl, rfl⟩ := h; rfl
  · obtain ⟨h, ss, m, st, i, taken, ho, hi, rfl, rfl, rfl⟩ := h
    let P := (insP T Cc a dx (dayF h ss m st)).asG
    let s := ss.getD i noShip
    let ff : Int × Nat → Bool := fun q => decide (s.length ≤ q.1) && !taken.contains (q.2 : Int)
    let mk : Int × Nat → PyData := fun q => pairI (q.1, (q.2 : Int))
    refine dss_cons (ds_new 3 (dn_lst das_nil)) ?_
    refine dss_at [P, dI (i : Nat), .dat (encIs taken), .own [], .unk, .unk] ?_
    refine dss_forC (fun j => [P, dI (i : Nat), .dat (encIs taken), .own (((h.berths.zipIdx.take j).filter ff).map mk), .unk, .unk]) (by repeat constructor) (di_enum B (de_ixT (de_fld 0 K (.inr rfl) rfl) de_int (at_nat (by decide) rfl))) (fun j d hd => ?_) ?_
    · rw [enumD_map, List.getElem?_map] at hd
      obtain ⟨x, hx, rfl⟩ := Option.map_eq_some_iff.mp hd
      have hlen : (((h.berths.zipIdx.take j).filter ff).map mk).length ≤ 9 := by
        rw [List.length_map]
        refine Nat.le_trans (List.length_filter_le _ _) ?_
        rw [List.length_take, List.length_zipIdx]
        have := ho.hk.bl
        omega
      rw [take_filter ff hx, List.map_append]
      generalize ((h.berths.zipIdx.take j).filter ff).map mk = acc at hlen
      refine ⟨_, _, dg_tup (dgs_cons (dg_name 4) (dgs_cons (dg_name 5) dgs_nil)), [P, dI (i : Nat), .dat (encIs taken), .own (acc ++ (if ff x = true then [x] else []).map mk), dI (x.2 : Nat), dI x.1], ?_, .keep (.keep (.keep (.keep (.drop (.drop .nil)))))⟩
      refine dss_at [P, dI (i : Nat), .dat (encIs taken), .own acc, dI (x.2 : Nat), dI x.1] ?_
      refine dss_if2 (x := ff x) (dt_eq (dw_and (dt_cmp (de_ge (de_var 5 rfl) (de_ixT (ship_ix K (de_fld 0 K (.inr rfl) rfl) (de_var 1 rfl) hi) de_int (at_nat (by decide) rfl)))) (fun _ => dw_and1 (dt_cmp (de_notIn (de_var 4 rfl) (de_var 2 rfl) rfl rfl (shaped_ints taken))))).t (by rw [show (PyData.int (x.2 : Nat)) = encO (some (x.2 : Nat)) from rfl, free_eq]; rfl)) (fun h5 => ?_) (fun h5 => nilB ?_)
      · rw [if_pos h5]
        exact ⟨_, dss_one (ds_append 3 rfl (de_tup (das_cons (de_var 5 rfl) (das_cons (de_var 4 rfl) das_nil))) (by omega)), dss_to dss_nil rfl⟩
      · rw [if_neg (by rw [h5]; decide), List.map_nil, List.append_nil]
        exact dss_nil
    · have hfin : ((h.berths.zipIdx.take (enumD (List.map PyData.int h.berths)).length).filter ff).map mk = (berthRows h s taken).map pairI := by
        rw [enumD_length, List.length_map, ← List.length_zipIdx, List.take_length]
        unfold berthRows
        rw [List.map_map]
        rfl
      rw [hfin]
      refine dss_rel 3 rfl ?_
      refine dss_at [P, dI (i : Nat), .dat (encIs taken), .dat (.list ((berthRows h s taken).map pairI)), .unk, .unk] ?_
      show DSs _ _ _ (fun z => z = encO (berthFor h s taken)) _
      unfold berthFor
      cases hb : berthRows h s taken with
      | nil => exact dss_one (ds_ret (de_ifF (dt_eq (dt_list (de_var 3 rfl)) rfl) de_non) rfl)
      | cons y ys =>
        refine dss_one (ds_ret (d := .int (minE ltI y ys).2) (de_ifT (dt_eq (dt_list (de_var 3 rfl)) rfl) (de_ixT (ds := [.int (minE ltI y ys).1, .int (minE ltI y ys).2]) (de_to (de_minD B (de_var 3 rfl) (noDicts_pair (y :: ys)) ⟨alikeAll_enc alike_pair (y :: ys), fun d hd => ?_⟩ (depthAll_le fun d hd => ?_)) (minD_enc lt_pair y ys)) de_int (at_nat (by decide) rfl))) ?_)
        · obtain ⟨z, _, rfl⟩ := List.mem_map.mp (show d ∈ (y :: ys).map pairI from hd)
          exact fun e => nomatch e
        · obtain ⟨z, _, rfl⟩ := List.mem_map.mp (show d ∈ (y :: ys).map pairI from hd)
          exact depth_pair z
        · show PyData.int _ = encO ((minPair (y :: ys)).map (·.2))
          unfold minPair
          rw [lexLt_ltI]
          rfl
/-! ### going out -/
omit B K in
theorem lying_get {moves : List DMv} {k n : Nat} (h : (lyingOf moves)[k]? = some n) : ∃ f b, moves[n]? = some (.lie f b) := by
  unfold lyingOf at h
  rw [List.getElem?_map] at h
  obtain ⟨q, hq, rfl⟩ := Option.map_eq_some_iff.mp h
  have hm := List.mem_filter.mp (List.mem_of_getElem? hq)
  obtain ⟨i, hi⟩ := List.getElem?_of_mem hm.1
  obtain ⟨e1, e2⟩ := zi_get hi
  rw [e2]
  cases hq1 : q.1 with
  | sea => rw [hq1] at hm; cases hm.2
  | lie f b => exact ⟨f, b, by rw [e1, hq1]⟩
  | gone f b o => rw [hq1] at hm; cases hm.2
omit B K in
theorem lying_nodup (moves : List DMv) : (lyingOf moves).Nodup := by
  unfold lyingOf
  have h : (moves.zipIdx.map (·.2)).Nodup := by
    have : moves.zipIdx.map (·.2) = List.range' 0 moves.length := by
      rw [List.zipIdx_eq_zip_range', List.map_snd_zip (by simp)]
    rw [this]
    exact List.nodup_range'
  exact (h.sublist ((List.filter_sublist).map _))
omit B K in
theorem outStep_len (h : Harbour) (ss : List Ship) (hour : Int) (d : DSt) (i : Nat) : (outStep h ss hour d i).moves.length = d.moves.length := by
  unfold outStep
  split
  · split
    · exact List.length_set
    · rfl
  · rfl
omit B K in
theorem outStep_other (h : Harbour) (ss : List Ship) (hour : Int) (d : DSt) {i j : Nat} (hij : j ≠ i) : (outStep h ss hour d i).moves[j]? = d.moves[j]? := by
  unfold outStep
  split
  · split
    · exact List.getElem?_set_ne (Ne.symm hij)
    · rfl
  · rfl
omit B K in
theorem outs_other (h : Harbour) (ss : List Ship) (hour : Int) (j : Nat) : ∀ (l : List Nat) (d : DSt), j ∉ l → (l.foldl (outStep h ss hour) d).moves[j]? = d.moves[j]? ∧ (l.foldl (outStep h ss hour) d).moves.length = d.moves.length
  | [], d, _ => ⟨rfl, rfl⟩
  | i :: l, d, hj => by
    obtain ⟨a, b⟩ := outs_other h ss hour j l (outStep h ss hour d i) fun z => hj (List.mem_cons_of_mem _ z)
    refine ⟨by rw [List.foldl_cons, a, outStep_other h ss hour d (fun e => hj (by rw [e]; exact List.mem_cons_self))], by rw [List.foldl_cons, b, outStep_len]⟩
omit B K in
theorem outs_len (h : Harbour) (ss : List Ship) (hour : Int) : ∀ (l : List Nat) (d : DSt), (l.foldl (outStep h ss hour) d).moves.length = d.moves.length
  | [], d => rfl
  | i :: l, d => by rw [List.foldl_cons, outs_len h ss hour l, outStep_len]
def outS : MSpec := fun ds fs fs' => ∃ h ss m st hour, DOk h ss st ∧ ds = [.int hour] ∧ fs = dayF h ss m st ∧ fs' = dayF h ss m (goOut h ss hour st)
theorem F_out (FL : LFn T Cc 1 "lying" lyingS) (FC : RFn T Cc 2 "can_move" canS) (FS : MFn T Cc 1 "spend" spendS) (D : MethAt T Cc "go_out" "Day.go_out" sDOut pDOut) : MFn T Cc 3 "go_out" outS := by
  refine mfn_of (N := nDOut) D scDOut stDOut (fun ds fs fs' h => ?_) (fun a dx ds fs fs' h Z ok => ?_)
  · obtain ⟨h, ss, m, st, hour, _, rfl, rfl, rfl⟩ := h; rfl
  · obtain ⟨h, ss, m, st, hour, ho, rfl, rfl, rfl⟩ := h
    let ly := lyingOf st.moves
    let dAt : Nat → DSt := fun k => (ly.take k).foldl (outStep h ss hour) st
    let P : DSt → SV := fun d => .obj (insP T Cc a dx (dayF h ss m d))
    refine ⟨[P (goOut h ss hour st), dI hour, .unk, .unk, .unk, .unk], rfl, ?_⟩
    have fl : ∀ y ∈ (lyingOf st.moves).map (fun i => PyData.int (i : Nat)), flatD y = true := fun y hy => by
      obtain ⟨i, _, rfl⟩ := List.mem_map.mp hy
      rfl
    refine dss_forC (fun k => [P (dAt k), dI hour, .unk, .unk, .unk, .unk]) (by repeat constructor) (di_list (DN.e (dn_view (dn_methL 0 K FL (view_at rfl) ⟨h, ss, m, st, by rw [ho.ml]; exact ho.s3, rfl, rfl⟩ rfl fl) fl))) (fun k d hd => ?_) ?_
    · rw [List.getElem?_map] at hd
      obtain ⟨n, hn, rfl⟩ := Option.map_eq_some_iff.mp hd
      have dx1 : dAt (k + 1) = outStep h ss hour (dAt k) n := take_fold (outStep h ss hour) st hn
      obtain ⟨f, b, hm0⟩ := lying_get hn
      have hnk : n ∉ ly.take k := fun z => by
        obtain ⟨j, hj⟩ := List.getElem?_of_mem z
        have hjk : j < k := by
          have := (List.getElem?_eq_some_iff.mp hj).1
          rw [List.length_take] at this
          omega
        rw [List.getElem?_take, if_pos hjk] at hj
        have h1 := (List.getElem?_eq_some_iff.mp hj).1
        have := (List.getElem?_inj h1 (lying_nodup st.moves)).mp (hj.trans hn.symm)
        omega
      have hm : (dAt k).moves[n]? = some (.lie f b) := by rw [(outs_other h ss hour n (ly.take k) st hnk).1]; exact hm0
      have hl : (dAt k).moves.length = ss.length := by rw [← ho.ml]; exact outs_len h ss hour _ st
      rw [dx1]
      generalize dAt k = d at hm hl
      have hns : n < ss.length := by rw [← hl]; exact (List.getElem?_eq_some_iff.mp hm).1
      have hod : DOk h ss d := ⟨ho.hk, ho.sk, hl, ho.s3⟩
      let cnd := decide (f + 1 + (ss.getD n noShip).stay ≤ hour) && canMove h ss d n hour
      have os : outStep h ss hour d n = if cnd = true then moveAs ss d n (.gone f b hour) else d := by
        unfold outStep
        rw [List.getD_eq_getElem?_getD, hm]
        rfl
      rw [os]
      have hmd : (d.moves.map encD)[n]? = some (.tuple [.int f, .int b, .none]) := by rw [List.getElem?_map, hm]; rfl
      refine ⟨_, _, dg_name 2, [P (if cnd = true then moveAs ss d n (.gone f b hour) else d), dI hour, dI (n : Nat), dI f, dI b, .dat .none], ?_, .keep (.keep (.drop (.drop (.drop (.drop .nil)))))⟩
      refine dss_cons (ds_asg (de_fldAt 0 K rfl rfl (de_var 2 rfl) (at_nat (by omega) hmd)) (dg_tup (dgs_cons (dg_name 3) (dgs_cons (dg_name 4) (dgs_cons (dg_name 5) dgs_nil))))) ?_
      refine dss_at [P d, dI hour, dI (n : Nat), dI f, dI b, .dat .none] ?_
      refine dss_if2 (x := cnd) (dw_and (dt_cmp (de_ge (de_var 1 rfl) (de_add (de_add (de_var 3 rfl) de_int) (de_ixT (ship_ix K (de_fld 0 K (.inl rfl) rfl) (de_var 2 rfl) hns) de_int (at_nat (by decide) rfl))))) (fun _ => dw_and1 (dt_view (dt_val (de_methR 0 K FC (view_at rfl) (das_cons (de_var 2 rfl) (das_cons (de_var 1 rfl) das_nil)) ⟨h, ss, m, d, n, hour, hod, hns, rfl, rfl, rfl⟩ rfl))))).t (fun h5 => ?_) (fun h5 => nilB ?_)
      · rw [if_pos h5]
        refine ⟨_, dss_cons (ds_setAtF 0 K rfl rfl rfl (de_tup (das_cons (de_var 3 rfl) (das_cons (de_var 4 rfl) (das_cons (de_var 1 rfl) das_nil)))) (de_var 2 rfl) (by omega) (by rw [List.length_map, hl]; exact hns)) (dss_at [P ⟨d.moves.set n (.gone f b hour), d.tugs, d.pilots⟩, dI hour, dI (n : Nat), dI f, dI b, .dat .none] (dss_one (ds_meth 0 K FS rfl (das_cons (de_var 2 rfl) das_nil) ⟨h, ss, m, ⟨d.moves.set n (.gone f b hour), d.tugs, d.pilots⟩, n, ⟨ho.hk, ho.sk, by rw [List.length_set]; exact hl, ho.s3⟩, hns, rfl, rfl, rfl⟩ (fun z hz => hz) rfl)) ?_), dss_to dss_nil rfl⟩
        show _ = [SV.obj (insP T Cc a dx [("harbour", .d (encH h)), ("ships", .d (encSs ss)), ("moves", .l m ((d.moves.set n (.gone f b hour)).map encD)), ("tugs", .d (.int d.tugs)), ("pilots", .d (.int d.pilots))]), dI hour, dI (n : Nat), dI f, dI b, .dat .none]
        rw [List.map_set]
        rfl
      · rw [if_neg (by rw [h5]; decide)]
        exact dss_nil
    · have hfin : dAt (List.map (fun i => PyData.int (i : Nat)) (lyingOf st.moves)).length = goOut h ss hour st := by
        show (ly.take _).foldl _ _ = _
        rw [List.length_map, List.take_length]
        rfl
      rw [hfin]
      exact dss_nil
end
end TW

/-! Walks: come_in, hour, the making of a Day, plan_by. -/
namespace TW
open PySem PySem.Spec L2 DL
open PyProof.Rows hiding St
section
variable {T : Tx} {C : CS T} {r r1 : Sls} {Cc a dx : Addr} {fs fs' : List (Str × FV)} {G0 H0 G H G' H' : Hp} {σ : L2.St}
/-- behind a call that changed what slot i owns, and more that no other slot owns -/
theorem called2 {i : Nat} {s : SV} {L : List Addr} (h : Bs T G0 H0 r σ G H) (h0 : ∀ z ∈ L, H0 z = none) (hL : ∀ j z, j ≠ i → OwnAt r σ j z → z ∉ L) (x : Ext G (offA L H) G' H') (hs : SlotOk T G' H' σ[i]? s) (hn : ∀ z, OwnV σ[i]? (some s) z → OwnAt r σ i z) : Bs T G0 H0 (r.set i s) σ G' H' := by
  have x' : Ext G0 H0 G' H' := by
    refine ⟨h.ext.g.trans x.g, fun z u q => ?_, x.gh, fun z u q1 q2 => ?_⟩
    · refine x.h z u ?_
      rw [off_out fun w => by rw [h0 z w] at q; cases q]
      exact h.ext.h z u q
    · refine x.sep z u ?_ (h.ext.sep z u q1 q2)
      rw [off_out fun w => by rw [h0 z w] at q1; cases q1]
      exact h.ext.h z u q1
  refine h.put rfl (fun _ _ => rfl) x' x.g (fun j z hj hz => ?_) (fun _ => hs) fun z hz => ?_
  · have hzL : z ∉ L := hL j z hj hz
    obtain ⟨q1, q2⟩ := h.sl.there hz
    cases q : H z with
    | none => exact absurd q q2
    | some u => exact ⟨x.h z u (by rw [off_out hzL]; exact q), x.sep z u (by rw [off_out hzL]; exact q) q1⟩
  · obtain ⟨q1, q2⟩ := h.own i z (hn z hz)
    exact ⟨q1, fun k hk hk' => hk (q2 k hk')⟩
abbrev CSpec := PyData → PyData → List PyData → List (Str × FV) → List (Str × FV) → Prop
/-- a method of two data and a list that it may write to -/
def spC (T : Tx) (Cc : Addr) (S : CSpec) : Sp := fun vs H Q _ => ∃ G a dx fs fs' w1 w2 o xs d1 d2 tk, vs = [.ref a, w1, w2, .ref o] ∧ S d1 d2 tk fs fs' ∧ (∀ z ∈ fsFp fs', z ∈ fsFp fs) ∧ Same G H ∧ SlotOk T G H (some (some (.ref a))) (.obj (insP T Cc a dx fs)) ∧ Rp T G w1 d1 ∧ Rp T G w2 d2 ∧
  G o = none ∧ H o = some (.lst xs) ∧ RpAll T G xs tk ∧ o ∉ (insP T Cc a dx fs).fp ∧ ∀ G' H', Ext G (offA (o :: (insP T Cc a dx fs).fp) H) G' H' → SlotOk T G' H' (some (some (.ref a))) (.obj (insP T Cc a dx fs')) → Q .non H'
structure CFn (T : Tx) (Cc : Addr) (k : Nat) (m : Str) (S : CSpec) : Prop where
  ex : ∃ f fd ps, FnOk T.P T.w T.K T.mg T.base CX0 k f fd ps (spC T Cc S) ∧ Meth T.K Cc m f ∧ Binds T.K fd ps []
theorem cfn_of {x qual : Str} {st : Stmt} {N ps : List Str} {tab : List (Str × NameKind)} {k : Nat} {S : CSpec} (D : MethAt T Cc x qual st ps) (Sc : FnScope N ps (defScope st)) (ht : (defScope st).names = tab) (hlen : ps.length = 4)
    (body : ∀ a dx d1 d2 tk fs fs', S d1 d2 tk fs fs' → ∀ (Z : Cx → Prop) (ok : ∀ X, Z X → CxIs T N tab k (fun _ => true) X), ∃ r', r'[0]? = some (.obj (insP T Cc a dx fs')) ∧ DSs (CS.mk Z N tab k (fun _ => true) ok) (defBody st) (.obj (insP T Cc a dx fs) :: .dat d1 :: .dat d2 :: .own tk :: List.replicate (N.length - 4) .unk) (fun _ => False) r') : CFn T Cc (k + 1) x S := by
  obtain ⟨f, fd, F, hM, hb⟩ := D.ex
  refine ⟨f, fd, ps, F.ok Sc (fun vs H Q E h => ?_) (fun cdv A outer s H vs Q E hr h => ?_), hM, hb⟩
  · obtain ⟨G, a, dx, fs, fs', w1, w2, o, xs, d1, d2, tk, rfl, _⟩ := h
    rw [hlen]; rfl
  · obtain ⟨G, a, dx, fs, fs', w1, w2, o, xs, d1, d2, tk, rfl, hS, hfp, hG, hs, h1, h2, ho1, ho2, ho3, ho4, q⟩ := h
    obtain ⟨r', hr', t, pt, et⟩ := body a dx d1 d2 tk fs fs' hS (fun Y => Y = (cxOf CX0 T.P T.w T.K T.mg T.base N qual (defScope st) f cdv A outer s H E).nox) (fun X e => by
      subst e
      exact ⟨rfl, rfl, rfl, rfl, rfl, Sc.nd, rfl, ht, Sc.kind, rfl, hr, fun _ _ => rfl, rfl⟩)
    have hfpG : ∀ z ∈ (insP T Cc a dx fs).fp, G z = none := fun z hz => by
      obtain ⟨_, _, _, w⟩ := hs
      exact (w z hz).1
    let r0 : Sls := .obj (insP T Cc a dx fs) :: .dat d1 :: .dat d2 :: .own tk :: List.replicate (N.length - 4) .unk
    have hst : L2.start N [V.ref a, w1, w2, V.ref o] = some (V.ref a) :: some w1 :: some w2 :: some (V.ref o) :: List.replicate (N.length - 4) none := rfl
    have key : ∀ i z, OwnAt r0 (L2.start N [V.ref a, w1, w2, V.ref o]) i z → (i = 0 ∧ z ∈ (insP T Cc a dx fs).fp) ∨ (i = 3 ∧ z = o) := fun i z hz => by
      rw [hst] at hz
      match i, hz with
      | 0, hz => exact .inl ⟨rfl, own_insV hz⟩
      | 1, hz => exact absurd hz (OwnV.no (s := .dat d1) trivial)
      | 2, hz => exact absurd hz (OwnV.no (s := .dat d2) trivial)
      | 3, hz =>
        rcases hz with ⟨e, _⟩ | ⟨P, e, _⟩
        · have e' : some (some (V.ref o)) = some (some (V.ref z)) := e
          simp at e'
          exact .inr ⟨rfl, e'.symm⟩
        · have e' : some (SV.own tk) = some (.obj P) := e
          cases e'
      | i + 4, hz =>
        unfold OwnAt at hz
        have e : r0[i + 4]? = (List.replicate (N.length - 4) SV.unk)[i]? := rfl
        rw [e] at hz
        cases q : (List.replicate (N.length - 4) SV.unk)[i]? with
        | none => rw [q] at hz; exact absurd hz OwnV.none
        | some s =>
          rw [q] at hz
          have := List.mem_of_getElem? q
          rw [List.mem_replicate] at this
          obtain ⟨_, rfl⟩ := this
          exact absurd hz (OwnV.no (s := .unk) trivial)
    have start : Bs T G (offA (o :: (insP T Cc a dx fs).fp) H) r0 (L2.start N [V.ref a, w1, w2, V.ref o]) G H := by
      refine ⟨⟨Same.refl _, fun z u q => ?_, hG, fun z u _ w => w⟩, ⟨?_, fun i s' hs' => ?_⟩, fun i z hz => ?_⟩
      · by_cases hz : z ∈ o :: (insP T Cc a dx fs).fp
        · rw [off_in hz] at q; cases q
        · rw [off_out hz] at q; exact q
      · rw [hst]; simp [r0]
      · rw [hst]
        match i, hs' with
        | 0, hs' => cases hs'; exact hs
        | 1, hs' => cases hs'; exact ⟨w1, rfl, h1⟩
        | 2, hs' => cases hs'; exact ⟨w2, rfl, h2⟩
        | 3, hs' => cases hs'; exact ⟨o, xs, rfl, ho1, ho2, ho3⟩
        | i + 4, hs' =>
          have e : r0[i + 4]? = (List.replicate (N.length - 4) SV.unk)[i]? := rfl
          rw [e] at hs'
          have := List.mem_of_getElem? hs'
          rw [List.mem_replicate] at this
          obtain ⟨_, rfl⟩ := this
          trivial
      · rcases key i z hz with ⟨rfl, hz'⟩ | ⟨rfl, rfl⟩
        · refine ⟨off_in (List.mem_cons_of_mem _ hz'), fun j hj => ?_⟩
          rcases key j z hj with ⟨e, _⟩ | ⟨_, e⟩
          · exact e
          · subst e; exact absurd hz' ho4
        · refine ⟨off_in List.mem_cons_self, fun j hj => ?_⟩
          rcases key j z hj with ⟨_, e⟩ | ⟨e, _⟩
          · exact absurd e ho4
          · exact e
    refine ⟨t, pt _ rfl, et G _ _ G H _ start (fun σ' G' H' h' => ?_) (fun d' v G' H' e x r => e.elim)⟩
    obtain ⟨v, e1, e2, e3⟩ := h'.sl.at_ 0 _ hr'
    have := e2.1
    subst this
    exact q G' H' h'.ext ⟨_, rfl, e2, e3⟩
theorem ds_methC (i j : Nat) {k : Nat} {S : CSpec} {pl : Env → Sem Bool} {ns : List Str} {m' x y : Str} {e1 e2 : Expr} {d1 d2 : PyData} {tk : List PyData} {R : PyData → Prop} {np yp pos apos cpos : Pos} (K : ClsD T Cc ns) (F : CFn T Cc k m' S) (hr : r[i]? = some (.obj (insP T Cc a dx fs))) (hrj : r[j]? = some (.own tk)) (h1 : DE C e1 r d1) (h2 : DE C e2 r d2) (hS : S d1 d2 tk fs fs') (hfp : ∀ z ∈ fsFp fs', z ∈ fsFp fs) (hm : fs.lookup m' = none) (hij : i ≠ j) (hk : k ≤ C.k := by first | decide | (dsimp only [CS.blk]; decide)) (hN : C.N[i]? = some x := by rfl) (hv : visB C.tab x = true := by rfl)
    (hd : (x == ("__debug__" : Str)) = false := by decide) (hcd : (x == ("__classdict__" : Str)) = false := by decide) (hN2 : C.N[j]? = some y := by rfl) (hv2 : visB C.tab y = true := by rfl)
    (hd2 : (y == ("__debug__" : Str)) = false := by decide) (hcd2 : (y == ("__classdict__" : Str)) = false := by decide)
    (hst : ∀ env : Env, starEach [e1, e2, .Name y yp] env = [(false, eval e1 env), (false, eval e2 env), (false, eval (.Name y yp) env)] := by intro _; rfl) (hst2 : ∀ env : Env, starEach [e2, .Name y yp] env = [(false, eval e2 env), (false, eval (.Name y yp) env)] := by intro _; rfl) (hst3 : ∀ env : Env, starEach [.Name y yp] env = [(false, eval (.Name y yp) env)] := by intro _; rfl)
    (ht : ∀ env : Env, eval (.Call (.Attribute (.Name x np) m' apos) [e1, e2, .Name y yp] [] cpos) env = (do
      let ov ← eval (.Name x np) env
      standAt apos.atName
      let (f, first) ← holding [ov] (getMethod ov m' (pl env))
      callWith cpos f first (backTo cpos (starEach [e1, e2, .Name y yp] env)) (backToKw cpos (keywordEach [] env))) := by intro _; rfl)
    (hsw : ∀ env : Env, swapsWith (.Call (.Attribute (.Name x np) m' apos) [e1, e2, .Name y yp] [] cpos) none pos.line env = pure false := by intro _; rfl) :
    DS C (.Expr (.Call (.Attribute (.Name x np) m' apos) [e1, e2, .Name y yp] [] cpos) pos) r R ((r.set j .unk).set i (.obj (insP T Cc a dx fs'))) := by
  obtain ⟨f, fd, ps, F, hM, hb⟩ := F.ex
  obtain ⟨t1, p1, ev1⟩ := h1
  obtain ⟨t2, p2, ev2⟩ := h2
  refine ⟨tDrop (tMeth Cc m' (spC T Cc S) [] E0 (tVar i) (tCons t1 (tCons t2 (tCons (tVar j) tNil)))), fun X hX => ?_, fun G0 H0 σ G H D h q _ => ?_⟩
  · have c := C.ok X hX
    have hv1 : PE X (.Name x np) (tVar i) := pe_var (by rw [c.eN]; exact hN) (vis_of (by rw [c.etab]; exact hv)) hd hcd
    have hv3 : PE X (.Name y yp) (tVar j) := pe_var (by rw [c.eN]; exact hN2) (vis_of (by rw [c.etab]; exact hv2)) hd2 hcd2
    exact ps_expr (pe_meth hv1 (by rw [c.eK]; exact K.cls) (by rw [c.eK]; exact hM) (fnAt hX F) (c.room.mono hk) (by rw [c.eK]; exact hb) .nil pass0 (pa_cons (p1 X hX) (pa_cons (p2 X hX) (pa_cons hv3 pa_nil (hst3 X.env)) (by rw [hst2, hst3])) (by rw [hst, hst2])) (by rw [hst, hst2]) (by rw [hst2]; rfl) (ht X.env)) (hsw X.env)
  · obtain ⟨_, e1, ⟨rfl, _, _, vs, h3, h4⟩, _⟩ := h.sl.at_ i _ hr
    refine ⟨_, e1, a, dx, vs, rfl, h3, h4.none hm, ev1 σ G H _ h.ext.gh h.sl fun w1 G1 H1 x1 r1 => ?_⟩
    refine ev2 σ G1 H1 _ x1.gh (h.sl.mono x1) fun w2 G2 H2 x2 r2 => ?_
    have hB := (h.mono x1).mono x2
    obtain ⟨o, xs, f1, f2, f3, f4⟩ := hB.sl.at_ j _ hrj
    refine ⟨_, f1, ?_⟩
    have hs := hB.sl.at_ i _ hr
    rw [e1] at hs
    have oj : OwnAt r σ j o := .inl ⟨f1, .inl ⟨_, hrj⟩⟩
    have oi : ∀ z, z ∈ (insP T Cc a dx fs).fp → OwnAt r σ i z := fun z hz => (own_ins hr).mp hz
    have hno : o ∉ (insP T Cc a dx fs).fp := fun z => hij ((hB.own j o oj).2 i (oi o z))
    refine ⟨G2, a, dx, fs, fs', w1, w2, o, xs, d1, d2, tk, rfl, hS, hfp, x2.gh, hs, r1.mono x2.g, r2, f2, f3, f4, hno, fun G' H' x3 hs' => ?_⟩
    have hF := hB.forget (i := j)
    have hr' : (r.set j .unk)[i]? = some (.obj (insP T Cc a dx fs)) := by rw [get_set hij]; exact hr
    refine q σ G' H' (called2 hF (fun z hz => ?_) (fun l z hl hz w => ?_) x3 (by rw [e1]; exact hs') fun z hz => (own_ins hr').mp (fp_sub hfp (own_insV hz)))
    · rcases List.mem_cons.mp hz with rfl | hz
      · exact (hB.own j z oj).1
      · exact (hB.own i z (oi z hz)).1
    · have hz' : OwnAt r σ l z ∧ l ≠ j := by
        by_cases hlj : l = j
        · subst hlj
          exact absurd (own_in hz).2 (OwnV.no (s := .unk) trivial)
        · exact ⟨own_off hlj rfl hz, hlj⟩
      rcases List.mem_cons.mp w with rfl | w
      · exact hz'.2 ((hB.own j z oj).2 l hz'.1)
      · exact hl ((hB.own i z (oi z w)).2 l hz'.1)
end
def encNs (l : List Nat) : PyData := .list (l.map fun i => .int (i : Nat))
theorem encD_sea (m : DMv) : ∃ a b c, encD m = .tuple [a, b, c] ∧ isNoneD a = isSea m := by
  cases m with
  | sea => exact ⟨_, _, _, rfl, rfl⟩
  | lie f b => exact ⟨_, _, _, rfl, rfl⟩
  | gone f b o => exact ⟨_, _, _, rfl, rfl⟩
theorem inStep_len (h : Harbour) (ss : List Ship) (hour : Int) (q : DSt × List Int) (i : Nat) : (inStep h ss hour q i).1.moves.length = q.1.moves.length ∧ (inStep h ss hour q i).2.length ≤ q.2.length + 1 := by
  unfold inStep
  split
  · split
    · exact ⟨List.length_set, by simp⟩
    · exact ⟨rfl, Nat.le_succ _⟩
  · exact ⟨rfl, Nat.le_succ _⟩
theorem ins_len (h : Harbour) (ss : List Ship) (hour : Int) : ∀ (l : List Nat) (q : DSt × List Int), (l.foldl (inStep h ss hour) q).1.moves.length = q.1.moves.length ∧ (l.foldl (inStep h ss hour) q).2.length ≤ q.2.length + l.length
  | [], q => ⟨rfl, Nat.le_refl _⟩
  | i :: l, q => by
    obtain ⟨a, b⟩ := ins_len h ss hour l (inStep h ss hour q i)
    obtain ⟨c, d⟩ := inStep_len h ss hour q i
    rw [List.foldl_cons, List.length_cons]
    exact ⟨a.trans c, by omega⟩
section
variable {T : Tx} (B : Blt T) {Cc : Addr} (K : ClsD T Cc dayNs)
include B K
def inS : CSpec := fun d1 d2 tk fs fs' => ∃ h ss m st order hour taken, DOk h ss st ∧ (∀ i ∈ order, i < ss.length) ∧ order.length ≤ 100 ∧ taken.length ≤ 100 ∧ d1 = encNs order ∧ d2 = .int hour ∧ tk = taken.map PyData.int ∧ fs = dayF h ss m st ∧ fs' = dayF h ss m (comeIn h ss order hour (st, taken)).1
theorem F_in (FB : RFn T Cc 1 "berth_for" berthS) (FC : RFn T Cc 2 "can_move" canS) (FS : MFn T Cc 1 "spend" spendS) (D : MethAt T Cc "come_in" "Day.come_in" sDIn pDIn) : CFn T Cc 3 "come_in" inS := by
  refine cfn_of (N := nDIn) D scDIn stDIn rfl (fun a dx d1 d2 tk fs fs' h Z ok => ?_)
  obtain ⟨h, ss, m, st, order, hour, taken, ho, hord, hol, htl, rfl, rfl, rfl, rfl, rfl⟩ := h
  let qAt : Nat → DSt × List Int := fun k => (order.take k).foldl (inStep h ss hour) (st, taken)
  let P : DSt → SV := fun d => .obj (insP T Cc a dx (dayF h ss m d))
  let O : List Int → SV := fun l => .own (l.map PyData.int)
  refine ⟨[P (comeIn h ss order hour (st, taken)).1, .dat (encNs order), dI hour, O (comeIn h ss order hour (st, taken)).2, .unk, .unk], rfl, ?_⟩
  refine dss_forC (fun k => [P (qAt k).1, .dat (encNs order), dI hour, O (qAt k).2, .unk, .unk]) (by repeat constructor) (di_list (de_var 1 rfl)) (fun k d hd => ?_) ?_
  · rw [List.getElem?_map] at hd
    obtain ⟨n, hn, rfl⟩ := Option.map_eq_some_iff.mp hd
    have qx : qAt (k + 1) = inStep h ss hour (qAt k) n := take_fold (inStep h ss hour) (st, taken) hn
    have hns : n < ss.length := hord n (List.mem_of_getElem? hn)
    obtain ⟨l1, l2⟩ := ins_len h ss hour (order.take k) (st, taken)
    have hl : (qAt k).1.moves.length = ss.length := l1.trans ho.ml
    have ht : (qAt k).2.length ≤ 200 := by
      have : (order.take k).length ≤ 100 := by rw [List.length_take]; omega
      have : (qAt k).2.length ≤ taken.length + (order.take k).length := l2
      omega
    rw [qx]
    generalize qAt k = q at hl ht
    obtain ⟨d, tk⟩ := q
    simp only at hl ht
    have hod : DOk h ss d := ⟨ho.hk, ho.sk, hl, ho.s3⟩
    let s := ss.getD n noShip
    let cnd := isSea (d.moves.getD n .sea) && (decide (s.ready ≤ hour) && canMove h ss d n hour)
    obtain ⟨ea, eb, ec, em, es⟩ := encD_sea (d.moves.getD n .sea)
    have hmd : (d.moves.map encD)[n]? = some (.tuple [ea, eb, ec]) := by
      rw [List.getElem?_map, List.getElem?_eq_getElem (by omega)]
      rw [List.getD_eq_getElem?_getD, List.getElem?_eq_getElem (by omega)] at em
      exact congrArg some em
    let bo := berthFor h s tk
    let q' := inStep h ss hour (d, tk) n
    have hbf : flatD (encO bo) = true := by cases bo <;> rfl
    refine ⟨_, _, dg_name 4, [P q'.1, .dat (encNs order), dI hour, O q'.2, dI (n : Nat), .unk], ?_, .keep (.keep (.keep (.keep (.drop (.keep .nil)))))⟩
    refine dss_at [P d, .dat (encNs order), dI hour, O tk, dI (n : Nat), .unk] ?_
    refine dss_if2 (x := cnd) (dt_eq (dw_and (dt_cmp (de_isN (de_ixT (de_fldAt 0 K rfl rfl (de_var 4 rfl) (at_nat (by omega) hmd)) de_int (at_nat (by decide) rfl)))) (fun _ => dw_and (dt_cmp (de_le (de_ixT (ship_ix K (de_fld 0 K (.inl rfl) rfl) (de_var 4 rfl) hns) de_int (at_nat (by decide) rfl)) (de_var 2 rfl))) (fun _ => dw_and1 (dt_view (dt_val (de_methR 0 K FC (view_at rfl) (das_cons (de_var 4 rfl) (das_cons (de_var 2 rfl) das_nil)) ⟨h, ss, m, d, n, hour, hod, hns, rfl, rfl, rfl⟩ rfl)))))).t (by rw [es])) (fun h5 => ?_) (fun h5 => nilB ?_)
    · refine ⟨[P q'.1, .dat (encNs order), dI hour, O q'.2, dI (n : Nat), .dat (encO bo)], ?_, dss_pre (.keep (.keep (.keep (.keep (.keep (.drop .nil)))))) dss_nil⟩
      refine dss_cons (ds_asg (de_view (de_methR 0 K FB (view_at rfl) (das_cons (de_var 4 rfl) (das_cons (de_var 3 rfl) das_nil)) ⟨h, ss, m, d, n, tk, hod, hns, rfl, rfl, rfl⟩ rfl hbf) hbf) (dg_name 5)) ?_
      refine dss_at [P d, .dat (encNs order), dI hour, O tk, dI (n : Nat), .dat (encO bo)] ?_
      have hqn : berthFor h s tk = none → q' = (d, tk) := fun e => by
        show inStep h ss hour (d, tk) n = _
        unfold inStep
        rw [if_pos h5]
        show (match berthFor h s tk with | some b => (moveAs ss d n (.lie hour b), tk ++ [b]) | none => (d, tk)) = _
        rw [e]
      have hqs : ∀ b, berthFor h s tk = some b → q' = (moveAs ss d n (.lie hour b), tk ++ [b]) := fun b e => by
        show inStep h ss hour (d, tk) n = _
        unfold inStep
        rw [if_pos h5]
        show (match berthFor h s tk with | some b => (moveAs ss d n (.lie hour b), tk ++ [b]) | none => (d, tk)) = _
        rw [e]
      clear hbf
      cases hb : bo with
      | none =>
        rw [hqn hb]
        exact dss_if2 (dt_cmp (de_notN (de_var 5 rfl))) (fun z => by cases z) (fun _ => nilB dss_nil)
      | some b =>
        rw [hqs b hb]
        refine dss_if2 (dt_cmp (de_notN (de_var 5 rfl))) (fun _ => ⟨_, dss_cons (ds_setAtF 0 K rfl rfl rfl (de_tup (das_cons (de_var 2 rfl) (das_cons (de_var 5 rfl) (das_cons de_non das_nil)))) (de_var 4 rfl) (by omega) (by rw [List.length_map, hl]; exact hns)) (dss_at [P ⟨d.moves.set n (.lie hour b), d.tugs, d.pilots⟩, .dat (encNs order), dI hour, O tk, dI (n : Nat), dI b] (dss_cons (ds_append 3 rfl (de_var 5 rfl) (by rw [List.length_map]; omega)) (dss_at [P ⟨d.moves.set n (.lie hour b), d.tugs, d.pilots⟩, .dat (encNs order), dI hour, O (tk ++ [b]), dI (n : Nat), dI b] (dss_one (ds_meth 0 K FS rfl (das_cons (de_var 4 rfl) das_nil) ⟨h, ss, m, ⟨d.moves.set n (.lie hour b), d.tugs, d.pilots⟩, n, ⟨ho.hk, ho.sk, by rw [List.length_set]; exact hl, ho.s3⟩, hns, rfl, rfl, rfl⟩ (fun z hz => hz) rfl)) (by
          show _ = [P ⟨d.moves.set n (.lie hour b), d.tugs, d.pilots⟩, SV.dat (encNs order), dI hour, SV.own ((tk ++ [b]).map PyData.int), dI (n : Nat), dI b]
          rw [List.map_append]
          rfl))) (by
          show _ = [SV.obj (insP T Cc a dx [("harbour", .d (encH h)), ("ships", .d (encSs ss)), ("moves", .l m ((d.moves.set n (.lie hour b)).map encD)), ("tugs", .d (.int d.tugs)), ("pilots", .d (.int d.pilots))]), .dat (encNs order), dI hour, O tk, dI (n : Nat), dI b]
          rw [List.map_set]
          rfl)), dss_to dss_nil rfl⟩) (fun z => by cases z)
    · have hq : q' = (d, tk) := by
        show inStep h ss hour (d, tk) n = _
        unfold inStep
        exact if_neg (fun z => by
          have z' : cnd = true := z
          rw [z'] at h5
          cases h5)
      rw [hq]
      exact dss_nil
  · have hfin : qAt (List.map (fun i => PyData.int (i : Nat)) order).length = comeIn h ss order hour (st, taken) := by
      show (order.take _).foldl _ _ = _
      rw [List.length_map, List.take_length]
      rfl
    rw [hfin]
    exact dss_nil
end
end TW

/-! Walks: Day.hour, the making of a Day, plan_by. -/
namespace TW
open PySem PySem.Spec L2 DL
open PyProof.Rows hiding St
section
variable {T : Tx} (B : Blt T) {Cc : Addr} (K : ClsD T Cc dayNs)
include B K
def hourS : MSpec := fun ds fs fs' => ∃ h ss m st order hour, DOk h ss st ∧ (∀ i ∈ order, i < ss.length) ∧ order.length ≤ 100 ∧ ds = [encNs order, .int hour] ∧ fs = dayF h ss m st ∧ fs' = dayF h ss m (hourStep h ss order st hour)
theorem F_hour (FL : LFn T Cc 1 "lying" lyingS) (FO : MFn T Cc 3 "go_out" outS) (FI : CFn T Cc 3 "come_in" inS) (D : MethAt T Cc "hour" "Day.hour" sDHour pDHour) : MFn T Cc 4 "hour" hourS := by
  refine mfn_of (N := nDHour) D scDHour stDHour (fun ds fs fs' h => ?_) (fun a dx ds fs fs' h Z ok => ?_)
  · obtain ⟨h, ss, m, st, order, hour, _, _, _, rfl, rfl, rfl⟩ := h; rfl
  · obtain ⟨h, ss, m, st, order, hour, ho, hord, hol, rfl, rfl, rfl⟩ := h
    let P : DSt → SV := fun d => .obj (insP T Cc a dx (dayF h ss m d))
    let d1 : DSt := ⟨st.moves, h.tugs, h.pilots⟩
    have o1 : DOk h ss d1 := ⟨ho.hk, ho.sk, ho.ml, ho.s3⟩
    let d2 := goOut h ss hour d1
    have o2 : DOk h ss d2 := ⟨ho.hk, ho.sk, (outs_len h ss hour _ d1).trans ho.ml, ho.s3⟩
    let tk := takenOf st.moves
    have lyl : (lyingOf st.moves).length ≤ 3 := by
      unfold lyingOf
      rw [List.length_map]
      refine Nat.le_trans (List.length_filter_le _ _) ?_
      rw [List.length_zipIdx, ho.ml]
      exact ho.s3
    have tkl : tk.length ≤ 3 := by
      show ((lyingOf st.moves).map _).length ≤ 3
      rw [List.length_map]
      exact lyl
    have fl : ∀ y ∈ (lyingOf st.moves).map (fun i => PyData.int (i : Nat)), flatD y = true := fun y hy => by
      obtain ⟨i, _, rfl⟩ := List.mem_map.mp hy
      rfl
    refine ⟨[P (hourStep h ss order st hour), .dat (encNs order), dI hour, .unk, .unk], rfl, ?_⟩
    refine dss_cons (ds_par2F 0 K rfl (de_tup (das_cons (de_ixT (de_fld 0 K (.inl rfl) rfl) de_int (at_nat (by decide) rfl)) (das_cons (de_ixT (de_fld 0 K (.inl rfl) rfl) de_int (at_nat (by decide) rfl)) das_nil))) (by show (5 : Nat) < 900; decide) (hw := by
      intro env
      unfold swappedStores
      cases env.blockKind <;> rfl)) ?_
    refine dss_at [P d1, .dat (encNs order), dI hour, .unk, .unk] ?_
    refine dss_cons (ds_newLc 3 [("name", 4)] (ys := tk.map PyData.int) (di_list (DN.e (dn_view (dn_methL 0 K FL (view_at rfl) ⟨h, ss, m, d1, by rw [ho.ml]; exact ho.s3, rfl, rfl⟩ rfl fl) fl))) (by rw [List.length_map]; exact Nat.le_trans lyl (by decide)) (by
      show Gives _ 0 _ (((lyingOf st.moves).map fun i => berthOf (st.moves.getD i .sea)).map PyData.int)
      rw [List.map_map]
      refine gives_map (lyingOf st.moves) 0 fun j x hx => ?_
      obtain ⟨f, b, hm⟩ := lying_get hx
      have hg : st.moves.getD x .sea = .lie f b := by rw [List.getD_eq_getElem?_getD, hm]; rfl
      show LcTurn _ _ _ _ _ _ _ (some (PyData.int (berthOf (st.moves.getD x .sea))))
      rw [hg]
      exact lct_all (dg_name 4) (de_ixT (de_fldAt 0 K rfl rfl (de_var 4 rfl) (at_nat (by omega) (show (st.moves.map encD)[x]? = some (.tuple [.int f, .int b, .none]) by rw [List.getElem?_map, hm]; rfl))) de_int (at_nat (by decide) rfl)))) ?_
    refine dss_at [P d1, .dat (encNs order), dI hour, .own (tk.map PyData.int), .unk] ?_
    refine dss_cons (ds_meth 0 K FO rfl (das_cons (de_var 2 rfl) das_nil) ⟨h, ss, m, d1, hour, o1, rfl, rfl, rfl⟩ (fun z hz => hz) rfl) ?_
    refine dss_at [P d2, .dat (encNs order), dI hour, .own (tk.map PyData.int), .unk] ?_
    exact dss_to (dss_one (ds_methC 0 3 K FI rfl rfl (de_var 1 rfl) (de_var 2 rfl) ⟨h, ss, m, d2, order, hour, tk, o2, hord, hol, by omega, rfl, rfl, rfl, rfl, rfl⟩ (fun z hz => hz) rfl (by decide))) rfl
omit B K in
def spI (T : Tx) (Cc : Addr) : Sp := fun vs H Q _ => ∃ G a dx vh vs' h ss, vs = [.ref a, vh, vs'] ∧ ss.length ≤ 3 ∧ Same G H ∧ H a = some (.ins Cc dx []) ∧ H dx = some (.own a) ∧ dx ≠ a ∧ G a = none ∧ G dx = none ∧ Rp T G vh (encH h) ∧ Rp T G vs' (encSs ss) ∧
  ∀ m G' H', H m = none → Ext G (offA [a, dx] H) G' H' → SlotOk T G' H' (some (some (.ref a))) (.obj (insP T Cc a dx (dayF h ss m ⟨ss.map fun _ => .sea, 0, 0⟩))) → Q .non H'
structure IFn (T : Tx) (Cc : Addr) (k : Nat) : Prop where
  ex : ∃ f fd ps, FnOk T.P T.w T.K T.mg T.base CX0 k f fd ps (spI T Cc) ∧ Mk T.K Cc f ∧ Binds T.K fd ps []
structure InitAt (T : Tx) (Cc : Addr) (st : Stmt) (ps : List Str) : Prop where
  ex : ∃ f fd, Fun T.K "__init__" "Day.__init__" st f fd ∧ Mk T.K Cc f ∧ Binds T.K fd ps []
def initE : List Stmt → Expr
  | [_, _, .Assign _ e _, _, _] => e
  | _ => .Constant .none 0 ⟨0, 0, 0, 0⟩
theorem F_init (D : InitAt T Cc sDInit pDInit) : IFn T Cc 1 := by
  obtain ⟨f, fd, F, hM, hb⟩ := D.ex
  refine ⟨f, fd, pDInit, F.ok scDInit (fun vs H Q E h => ?_) (fun cdv A outer s H vs Q E hr h => ?_), hM, hb⟩
  · obtain ⟨G, a, dx, vh, vs', h, ss, rfl, _⟩ := h
    rfl
  · obtain ⟨G, a, dx, vh, vs', h, ss, rfl, h3, hG, ha, hdx, hne, ga, gdx, r1, r2, q⟩ := h
    let Z : Cx → Prop := fun Y => Y = (cxOf CX0 T.P T.w T.K T.mg T.base nDInit "Day.__init__" (defScope sDInit) f cdv A outer s H E).nox
    have ok : ∀ X, Z X → CxIs T nDInit tDInit 0 (fun _ => true) X := fun X e => by
      subst e
      exact ⟨rfl, rfl, rfl, rfl, rfl, scDInit.nd, rfl, stDInit, scDInit.kind, rfl, hr, fun _ _ => rfl, rfl⟩
    let r : Sls := [.unk, .dat (encH h), .dat (encSs ss), .unk]
    let ms : List PyData := ss.map fun _ => .tuple [.none, .none, .none]
    have c := ok _ rfl
    have nN : nDInit.Nodup := scDInit.nd
    have v0 : ∀ p, PE (cxOf CX0 T.P T.w T.K T.mg T.base nDInit "Day.__init__" (defScope sDInit) f cdv A outer s H E).nox (.Name "self" p) (tVar 0) := fun p => pe_var (by rw [c.eN]; rfl) (vis_of (by rw [c.etab]; rfl)) (by decide) (by decide)
    have v1 : ∀ p, PE (cxOf CX0 T.P T.w T.K T.mg T.base nDInit "Day.__init__" (defScope sDInit) f cdv A outer s H E).nox (.Name "harbour" p) (tVar 1) := fun p => pe_var (by rw [c.eN]; rfl) (vis_of (by rw [c.etab]; rfl)) (by decide) (by decide)
    have v2 : ∀ p, PE (cxOf CX0 T.P T.w T.K T.mg T.base nDInit "Day.__init__" (defScope sDInit) f cdv A outer s H E).nox (.Name "ships" p) (tVar 2) := fun p => pe_var (by rw [c.eN]; rfl) (vis_of (by rw [c.etab]; rfl)) (by decide) (by decide)
    have key : ∃ t, PSs (cxOf CX0 T.P T.w T.K T.mg T.base nDInit "Day.__init__" (defScope sDInit) f cdv A outer s H E).nox (defBody sDInit) t ∧ ∀ D : Ends, (∀ σ' H', (∃ m G', H m = none ∧ Ext G (offA [a, dx] H) G' H' ∧ SlotOk T G' H' (some (some (.ref a))) (.obj (insP T Cc a dx (dayF h ss m ⟨ss.map fun _ => .sea, 0, 0⟩)))) → D.nx σ' H') → t D (L2.start nDInit [.ref a, vh, vs']) H := by
      have sl : ∀ G' H', Same G G' → Sl T r (L2.start nDInit [.ref a, vh, vs']) G' H' := fun G' H' g => by
        refine ⟨rfl, fun i s hs => ?_⟩
        match i, hs with
        | 0, hs => cases hs; trivial
        | 1, hs => cases hs; exact ⟨vh, rfl, r1.mono g⟩
        | 2, hs => cases hs; exact ⟨vs', rfl, r2.mono g⟩
        | 3, hs => cases hs; trivial
        | i + 4, hs => simp [r] at hs
      obtain ⟨te, pe, ee⟩ : DN (CS.mk Z nDInit tDInit 0 (fun _ => true) ok) (initE (defBody sDInit)) r ms := dn_lc [("_", 3)] (di_list (de_var 2 rfl)) (by rw [List.length_map]; omega) (gives_map (f := fun _ : Ship => PyData.tuple [.none, .none, .none]) _ 0 fun j x hx => lct_all (dg_name 3) (de_tup (das_cons de_non (das_cons de_non (das_cons de_non das_nil)))))
      have K1 := K.cls
      refine ⟨_, pss_cons (ps_fld (v0 _) (v1 _) rfl) (pss_cons (ps_fld (v0 _) (v2 _) rfl) (pss_cons (ps_fld (v0 _) (pe _ rfl) rfl) (pss_cons (ps_fld (v0 _) pe_int rfl) (pss_one (ps_fld (v0 _) pe_int rfl))))), fun D hD => ?_⟩
      have cK := c.eK
      refine ⟨vh, rfl, _, rfl, a, Cc, dx, _, rfl, ha, by rw [cK]; exact K1, by rw [cK]; exact K.na _ (by decide), by decide, ?_⟩
      refine ⟨vs', rfl, _, rfl, a, Cc, dx, _, rfl, upd_same, by rw [cK]; exact K1, by rw [cK]; exact K.na _ (by decide), by simp [putF], ?_⟩
      let H2 : Hp := upd (upd H a (.ins Cc dx (putF "harbour" vh []))) a (.ins Cc dx (putF "ships" vs' (putF "harbour" vh [])))
      have sG2 : Same G H2 := fun z u w => by
        have hz : z ≠ a := fun e => by subst e; rw [ga] at w; cases w
        show (upd (upd H a _) a _) z = some u
        rw [upd_ne hz, upd_ne hz]
        exact hG z u w
      refine ee _ G H2 _ sG2 (sl G H2 (Same.refl _)) fun o xs G3 H3 ho x3 g3 hl3 ra3 => ?_
      have ha2 : H2 a = some (.ins Cc dx [("harbour", vh), ("ships", vs')]) := upd_same
      have hd2 : H2 dx = some (.own a) := by
        show (upd (upd H a _) a _) dx = _
        rw [upd_ne hne, upd_ne hne]
        exact hdx
      have ha3 := x3.h _ _ ha2
      have hd3 := x3.h _ _ hd2
      have ga3 : G3 a = none := x3.sep a _ ha2 ga
      have gd3 : G3 dx = none := x3.sep dx _ hd2 gdx
      have oa : o ≠ a := fun e => by subst e; rw [ha2] at ho; cases ho
      have od : o ≠ dx := fun e => by subst e; rw [hd2] at ho; cases ho
      have hoH : H o = none := by
        have : (upd (upd H a (.ins Cc dx (putF "harbour" vh []))) a (.ins Cc dx (putF "ships" vs' (putF "harbour" vh [])))) o = none := ho
        rw [upd_ne oa, upd_ne oa] at this
        exact this
      refine ⟨_, rfl, a, Cc, dx, _, rfl, ha3, by rw [cK]; exact K1, by rw [cK]; exact K.na _ (by decide), by show (2 : Nat) < 1000; decide, ?_⟩
      refine ⟨_, rfl, a, Cc, dx, _, rfl, upd_same, by rw [cK]; exact K1, by rw [cK]; exact K.na _ (by decide), by show (3 : Nat) < 1000; decide, ?_⟩
      refine ⟨_, rfl, a, Cc, dx, _, rfl, upd_same, by rw [cK]; exact K1, by rw [cK]; exact K.na _ (by decide), by show (4 : Nat) < 1000; decide, ?_⟩
      refine hD _ _ ⟨o, G3, hoH, ⟨x3.g, fun z u w => ?_, fun z u w => ?_, fun z u w1 w2 => ?_⟩, ?_⟩
      · by_cases hz : z ∈ [a, dx]
        · rw [off_in hz] at w; cases w
        · rw [off_out hz] at w
          have hza : z ≠ a := fun e => hz (by rw [e]; simp)
          rw [upd_ne hza, upd_ne hza, upd_ne hza]
          refine x3.h z u ?_
          show (upd (upd H a _) a _) z = some u
          rw [upd_ne hza, upd_ne hza]
          exact w
      · have hza : z ≠ a := fun e => by subst e; rw [ga3] at w; cases w
        rw [upd_ne hza, upd_ne hza, upd_ne hza]
        exact x3.gh z u w
      · by_cases hz : z ∈ [a, dx]
        · rw [off_in hz] at w1; cases w1
        · rw [off_out hz] at w1
          have hza : z ≠ a := fun e => hz (by rw [e]; simp)
          refine x3.sep z u ?_ w2
          show (upd (upd H a _) a _) z = some u
          rw [upd_ne hza, upd_ne hza]
          exact w1
      · have hms : ms = (ss.map fun _ => DMv.sea).map encD := by
          show (ss.map _) = _
          rw [List.map_map]
          rfl
        refine ins_slot (vs := [("harbour", vh), ("ships", vs'), ("moves", .ref o), ("tugs", .int 0), ("pilots", .int 0)]) (by rw [upd_ne hne, upd_ne hne, upd_ne hne]; exact hd3) hne upd_same ?_ (fun z hz => ?_)
        · refine .cons (show Rp T G3 vh (encH h) from r1.mono x3.g) (.cons (show Rp T G3 vs' (encSs ss) from r2.mono x3.g) (.cons (show FvOk T G3 _ (.ref o) (.l o ((ss.map fun _ => DMv.sea).map encD)) from ⟨rfl, xs, ?_, ?_⟩) (.cons (show Rp T G3 (.int 0) (.int 0) from .int _) (.cons (show Rp T G3 (.int 0) (.int 0) from .int _) .nil))))
          · rw [upd_ne oa, upd_ne oa, upd_ne oa]; exact hl3
          · rw [← hms]; exact ra3
        · have hz' : z = a ∨ z = dx ∨ z = o := by
            have : z ∈ [a, dx, o] := hz
            simpa using this
          rcases hz' with rfl | rfl | rfl
          · exact ga3
          · exact gd3
          · exact g3
    obtain ⟨t, pt, et⟩ := key
    exact ⟨t, pt, et _ fun σ' H' ⟨m, G', e1, e2, e3⟩ => q m G' H' e1 e2 e3⟩
end
end TW

/-! Walks: plan_by, price_of. -/
namespace TW
open PySem PySem.Spec L2 DL
open PyProof.Rows hiding St
section
variable {T : Tx} {C : CS T} {r r1 : Sls} {R : PyData → Prop} {Cc a dx m : Addr} {fs : List (Str × FV)} {ns : List Str} {f x : Str} {ds : List PyData} {np pos pos' p cp rp : Pos} {e1 e2 : Expr} {rest : List Stmt}
theorem dss_day {k : Nat} {h : Harbour} {ss : List Ship} (i : Nat) (I : IFn T Cc k) (hmg : T.mg "Day" = some (.ref Cc)) (h1 : DE C e1 r (encH h)) (h2 : DE C e2 r (encSs ss)) (h3 : ss.length ≤ 3)
    (hrest : ∀ a dx m, DSs C rest (r.set i (.obj (insP T Cc a dx (dayF h ss m ⟨ss.map fun _ => .sea, 0, 0⟩)))) R r1) (hk : k + 1 ≤ C.k := by first | decide | (dsimp only; decide)) (hg : C.tab.lookup ("Day" : Str) = some .globalImplicit := by rfl) (hN : C.N[i]? = some x := by rfl) (hx : locB C x = true := by rfl)
    (hst : ∀ env : Env, starEach [e1, e2] env = (false, eval e1 env) :: starEach [e2] env := by intro _; rfl) (hst2 : ∀ env : Env, starEach [e2] env = (false, eval e2 env) :: starEach [] env := by intro _; rfl) (hpl : ∀ env : Env, (backTo cp (starEach [e2] env)).any (·.1) = false := by intro _; rfl)
    (hs : ∀ env : Env, swapsWith (.Call (.Name "Day" p) [e1, e2] [] cp) (some (.Name x pos')) pos.line env = pure false := by intro _; rfl) : DSs C (.Assign [.Name x pos'] (.Call (.Name "Day" p) [e1, e2] [] cp) pos :: rest) r R r1 := by
  obtain ⟨fa, fd, ps, F, hM, hb⟩ := I.ex
  obtain ⟨t1, p1, ev1⟩ := h1
  obtain ⟨t2, p2, ev2⟩ := h2
  let tr : TS := fun D σ H => ∃ t', (∀ X, C.S X → PSs X rest t') ∧ t' D σ H
  refine ⟨tSeq (tAsg (tMake Cc (spI T Cc) [] E0 (tCons t1 (tCons t2 tNil))) (gName i)) tr, fun X hX => ?_, fun G0 H0 σ G H D hB q qr => ?_⟩
  · have c := C.ok X hX
    have hpe := pe_make (x := "Day") (p := p) (pos := cp) (M := (by rw [c.eK]; exact hM : Mk X.K Cc fa)) (fnAt hX F) (c.room.mono hk) (gl_of c.etab hg) (by rw [c.emg]; exact hmg) (by rw [c.eK]; exact hb) .nil pass0 (pa_cons (p1 X hX) (pa_cons (p2 X hX) pa_nil (hst2 X.env)) (hst X.env)) (by decide) (hst X.env) (hpl X.env)
    refine pss_cons (ps_set (by rw [c.eN]; exact c.nd) (by rw [c.eN]; exact hN) (loc_of hX hx).1 hpe (hs X.env) (loc_of hX hx).2) ⟨fun pins s σ H D I ⟨t', p', h'⟩ => (p' X hX).run pins s σ H D I h'⟩
  · refine ev1 σ G H _ hB.ext.gh hB.sl fun w1 G1 H1 x1 r1' => ?_
    refine ev2 σ G1 H1 _ x1.gh (hB.sl.mono x1) fun w2 G2 H2 x2 r2 => ?_
    intro a dx na nd hne
    have hB2 := (hB.mono x1).mono x2
    have gh2 := x2.gh
    have ga : G2 a = none := gh2.free na
    have gd : G2 dx = none := gh2.free nd
    refine ⟨G2, a, dx, w1, w2, h, ss, rfl, h3, fun z u w => ?_, upd_same, by rw [upd_ne hne, upd_same], hne, ga, gd, r1'.mono x2.g, r2, fun m G' H' hm x3 hs' => ⟨rfl, ?_⟩⟩
    · have hza : z ≠ a := fun e => by subst e; rw [ga] at w; cases w
      have hzd : z ≠ dx := fun e => by subst e; rw [gd] at w; cases w
      rw [upd_ne hza, upd_ne hzd]
      exact gh2 z u w
    · have hold : ∀ z u, H2 z = some u → offA [a, dx] (upd (upd H2 dx (.own a)) a (.ins Cc dx [])) z = some u := fun z u w => by
        have hza : z ≠ a := fun e => by subst e; rw [na] at w; cases w
        have hzd : z ≠ dx := fun e => by subst e; rw [nd] at w; cases w
        rw [off_out (by simp [hza, hzd]), upd_ne hza, upd_ne hzd]
        exact w
      have xx : Ext G2 H2 G' H' := ⟨x3.g, fun z u w => x3.h z u (hold z u w), x3.gh, fun z u w1 w2 => x3.sep z u (hold z u w1) w2⟩
      have hma : m ≠ a := fun e => by subst e; rw [upd_same] at hm; cases hm
      have hmd : m ≠ dx := fun e => by subst e; rw [upd_ne hma, upd_same] at hm; cases hm
      have nm : H2 m = none := by rw [upd_ne hma, upd_ne hmd] at hm; exact hm
      have hB3 := (hB2.mono xx).setOwn (i := i) (x := a) (s := .obj (insP T Cc a dx (dayF h ss m ⟨ss.map fun _ => .sea, 0, 0⟩))) (fun z hz => by
        have hz' : z = a ∨ z = dx ∨ z = m := by
          have : z ∈ [a, dx, m] := own_insV hz
          simpa using this
        have hn : H2 z = none := by rcases hz' with rfl | rfl | rfl <;> assumption
        exact ⟨hB2.ext.h.free hn, fun k hk' => (hB2.sl.there hk').2 hn⟩) hs'
      obtain ⟨t', pt', et'⟩ := hrest a dx m
      exact ⟨t', pt', et' G0 H0 _ G' H' D hB3 q qr⟩
theorem ds_retFld (i : Nat) (K : ClsD T Cc ns) (hr : r[i]? = some (.obj (insP T Cc a dx fs))) (hf : fs.lookup f = some (.l m ds)) (hR : R (.list ds)) (hn : f ∈ ns := by decide) (hN : C.N[i]? = some x := by rfl) (hv : visB C.tab x = true := by rfl)
    (hd : (x == ("__debug__" : Str)) = false := by decide) (hcd : (x == ("__classdict__" : Str)) = false := by decide) (hb : ∀ env : Env, attributeBase (.Name x np) f env (eval (.Name x np) env) = eval (.Name x np) env := by intro _; rfl) :
    DS C (.Return (some (.Attribute (.Name x np) f pos)) rp) r R r1 := by
  refine ⟨tRet (tFld T.K (tVar i) f), fun X hX => ?_, fun G0 H0 σ G H D h _ qr => ?_⟩
  · have c := C.ok X hX
    have h1 : PE X (.Name x np) (tVar i) := pe_var (by rw [c.eN]; exact hN) (vis_of (by rw [c.etab]; exact hv)) hd hcd
    have h2 := pe_fld (f := f) (pos := pos) h1 (hb X.env)
    rw [c.eK] at h2
    exact ps_ret h2
  · obtain ⟨v, e1, ⟨rfl, _, _, vs, h3, h4⟩, e3⟩ := h.sl.at_ i _ hr
    obtain ⟨w, h5, rfl, xs, h7, h8⟩ := h4.look hf
    refine ⟨_, e1, a, Cc, dx, vs, _, rfl, h3, K.cls, K.na f hn, h5, ?_⟩
    have hm : m ∈ (insP T Cc a dx fs).fp := List.mem_cons_of_mem _ (List.mem_cons_of_mem _ (fp_none hf (by simp [FV.fp])))
    have hm0 := (h.own i m ((own_ins hr).mp hm)).1
    have s1 : Same G (upd G m (.lst xs)) := same_new (e3 m hm).1
    refine qr (.list ds) (.ref m) (upd G m (.lst xs)) H hR ⟨h.ext.g.trans s1, h.ext.h, fun b u q => ?_, fun b u q1 q2 => ?_⟩ (.lst upd_same (h8.mono s1))
    · by_cases hb : b = m
      · subst hb; rw [upd_same] at q; cases q; exact h7
      · rw [upd_ne hb] at q; exact h.ext.gh b u q
    · rw [upd_ne (ne_of_none q1 hm0)]; exact h.ext.sep b u q1 q2
end
theorem hourStep_len (h : Harbour) (ss : List Ship) (order : List Nat) (d : DSt) (hour : Int) : (hourStep h ss order d hour).moves.length = d.moves.length := by
  unfold hourStep comeIn
  rw [(ins_len h ss hour order _).1]
  unfold goOut
  exact outs_len h ss hour _ _
theorem hours_len (h : Harbour) (ss : List Ship) (order : List Nat) : ∀ (hs : List Int) (d : DSt), (hs.foldl (hourStep h ss order) d).moves.length = d.moves.length
  | [], d => rfl
  | x :: xs, d => by rw [List.foldl_cons, hours_len h ss order xs, hourStep_len]
def encPO : Option Plan → PyData
  | none => .none
  | some p => encPl p
theorem gone_all {ms : List DMv} (h : ms.all (fun m => (goneOf m).isSome) = true) : ms.map encD = (ms.filterMap goneOf).map encM := by
  induction ms with
  | nil => rfl
  | cons m ms ih =>
    rw [List.all_cons, Bool.and_eq_true] at h
    cases m with
    | sea => cases h.1
    | lie f b => cases h.1
    | gone f b o =>
      rw [List.filterMap_cons_some (f := goneOf) (a := .gone f b o) (b := (f, b, o)) rfl, List.map_cons, List.map_cons, ih h.2]
      rfl
section
variable {T : Tx} (B : Blt T) {Cc : Addr} (K : ClsD T Cc dayNs)
include B K
def spPlanBy : DSpec := fun ds d => ∃ h ss order, HOk h ∧ SsOk ss ∧ ss.length ≤ 3 ∧ (∀ i ∈ order, i < ss.length) ∧ order.length ≤ 100 ∧ ds = [encH h, encSs ss, encNs order] ∧ d = encPO (planBy h ss order)
theorem F_planBy (FI : IFn T Cc 1) (FH : MFn T Cc 4 "hour" hourS) (hmg : T.mg "Day" = some (.ref Cc)) (D : DefAt T "plan_by" sPlanBy pPlanBy) : DFn T 5 "plan_by" spPlanBy := by
  refine dfn_of (N := nPlanBy) D scPlanBy stPlanBy (fun ds d h => ?_) (fun ds d h Z ok => ?_)
  · obtain ⟨h, ss, order, _, _, _, _, _, rfl, rfl⟩ := h; rfl
  · obtain ⟨h, ss, order, hk, sk, h3, hord, hol, rfl, rfl⟩ := h
    refine dss_day 3 FI hmg (de_var 0 rfl) (de_var 1 rfl) h3 (fun a dx m => ?_)
    have hl0 := hk.l0
    have hl1 := hk.l1
    let hs := rng 0 (h.last + 1)
    let d0 : DSt := ⟨ss.map fun _ => .sea, 0, 0⟩
    let dAt : Nat → DSt := fun k => (hs.take k).foldl (hourStep h ss order) d0
    let P : DSt → SV := fun d => .obj (insP T Cc a dx (dayF h ss m d))
    refine dss_forC (fun k => [.dat (encH h), .dat (encSs ss), .dat (encNs order), P (dAt k), .unk, .unk, .unk]) (by repeat constructor) (di_range1 B (de_add (de_ixT (de_var 0 rfl) de_int (at_nat (by decide) rfl)) de_int) (by omega) (by omega)) (fun k d hd => ?_) ?_
    · obtain ⟨hi1, rfl⟩ := rngD_get hd
      have hx : hs[k]? = some ((0 : Int) + ((k : Nat) : Int)) := by
        show (rng 0 (h.last + 1))[k]? = _
        unfold rng
        rw [List.getElem?_map, List.getElem?_range (by omega)]
        rfl
      have dx1 : dAt (k + 1) = hourStep h ss order (dAt k) ((0 : Int) + ((k : Nat) : Int)) := take_fold (hourStep h ss order) d0 hx
      have hl : (dAt k).moves.length = ss.length := by
        show ((hs.take k).foldl (hourStep h ss order) d0).moves.length = _
        rw [hours_len]
        exact List.length_map _
      rw [dx1]
      generalize dAt k = st at hl
      generalize (0 : Int) + ((k : Nat) : Int) = now
      refine ⟨_, _, dg_name 4, [.dat (encH h), .dat (encSs ss), .dat (encNs order), P (hourStep h ss order st now), dI now, .unk, .unk], ?_, .keep (.keep (.keep (.keep (.drop (.keep (.keep .nil))))))⟩
      exact dss_to (dss_one (ds_meth 3 K FH rfl (das_cons (de_var 2 rfl) (das_cons (de_var 4 rfl) das_nil)) ⟨h, ss, m, st, order, now, ⟨hk, sk, hl, h3⟩, hord, hol, rfl, rfl, rfl⟩ (fun z hz => hz) rfl)) rfl
    · have hfin : dAt (rngD 0 (h.last + 1)).length = dayEnd h ss order := by
        show (hs.take _).foldl _ d0 = _
        rw [rngD_length, ← rng_len, List.take_length]
        rfl
      have hl : (dayEnd h ss order).moves.length = ss.length := by
        rw [← hfin]
        show ((hs.take _).foldl (hourStep h ss order) d0).moves.length = _
        rw [hours_len]
        exact List.length_map _
      rw [hfin]
      have hpb : planBy h ss order = if (dayEnd h ss order).moves.all (fun m => (goneOf m).isSome) = true then some ((dayEnd h ss order).moves.filterMap goneOf) else none := rfl
      rw [hpb]
      generalize dayEnd h ss order = de at hl
      let al := de.moves.all (fun m => (goneOf m).isSome)
      refine dss_if2 (x := !al) (dt_view (dt_eq (dt_val (de_any (bs := de.moves.map fun m => !(goneOf m).isSome) B (DN.e (dn_lc [("_", 5), ("out", 6)] (di_list (de_fldL 3 K (view_at rfl) rfl)) (by rw [List.length_map]; omega) (by
        rw [List.map_map]
        refine gives_map (f := fun m : DMv => PyData.bool (!(goneOf m).isSome)) de.moves 0 fun j x hx => ?_
        cases x with
        | sea => exact lct_all (dg_tup (dgs_cons (dg_name 5) (dgs_cons (dg_name 5) (dgs_cons (dg_name 6) dgs_nil)))) (de_to (de_isN (de_var 6 rfl)) rfl)
        | lie f b => exact lct_all (dg_tup (dgs_cons (dg_name 5) (dgs_cons (dg_name 5) (dgs_cons (dg_name 6) dgs_nil)))) (de_to (de_isN (de_var 6 rfl)) rfl)
        | gone f b o => exact lct_all (dg_tup (dgs_cons (dg_name 5) (dgs_cons (dg_name 5) (dgs_cons (dg_name 6) dgs_nil)))) (de_to (de_isN (de_var 6 rfl)) rfl)))))) (by
          rw [List.any_map]
          show (de.moves.any fun m => !(goneOf m).isSome) = !(de.moves.all fun m => (goneOf m).isSome)
          rw [List.not_all_eq_any_not]))) (fun h5 => retB de_non ?_) (fun h5 => nilB ?_)
      · have : ¬ de.moves.all (fun m => (goneOf m).isSome) = true := by
          have h5' : (!(de.moves.all fun m => (goneOf m).isSome)) = true := h5
          simpa using h5'
        rw [if_neg this]
        rfl
      · have this : de.moves.all (fun m => (goneOf m).isSome) = true := by
          have h5' : (!(de.moves.all fun m => (goneOf m).isSome)) = false := h5
          simpa using h5'
        rw [if_pos this]
        refine dss_one (ds_retFld 3 K rfl rfl ?_)
        show PyData.list (de.moves.map encD) = encPl _
        rw [gone_all this]
        rfl
end
end TW

/-! Walks: price_of, orders, best_orders. -/
namespace TW
open PySem PySem.Spec L2 DL
open PyProof.Rows hiding St
def natsI (l : List Nat) : List Int := l.map fun i => ((i : Nat) : Int)
theorem encNs_eq (l : List Nat) : encNs l = .list ((natsI l).map PyData.int) := by
  unfold encNs natsI
  rw [List.map_map]
  rfl
theorem ordersF_len : ∀ (k : Nat) (l : List Nat), l.length ≤ 4 → (ordersF k l).length ≤ 4 ^ k
  | 0, l, _ => by unfold ordersF; simp
  | k + 1, [], _ => by
    have := Nat.one_le_two_pow (n := 0)
    show ([[]] : List (List Nat)).length ≤ 4 ^ (k + 1)
    exact Nat.one_le_pow _ _ (by decide)
  | k + 1, n :: ns, h => by
    have h1 := flat_le (fun x => (ordersF k ((n :: ns).filter fun y => decide (y ≠ x))).map fun rest => x :: rest) (4 ^ k) (n :: ns) (fun x _ => by
      rw [List.length_map]
      exact ordersF_len k _ (Nat.le_trans (List.length_filter_le _ _) h))
    show ((n :: ns).flatMap _).length ≤ 4 ^ (k + 1)
    rw [Nat.pow_succ]
    refine Nat.le_trans h1 ?_
    rw [Nat.mul_comm (4 ^ k) 4]
    exact Nat.mul_le_mul_right _ h
theorem ordersF_mem : ∀ (k : Nat) (l o : List Nat), o ∈ ordersF k l → o.length ≤ k ∧ ∀ x ∈ o, x ∈ l
  | 0, l, o, h => by
    unfold ordersF at h
    simp at h
    subst h
    exact ⟨Nat.le_refl _, fun x hx => by simp at hx⟩
  | k + 1, [], o, h => by
    have h' : o ∈ ([[]] : List (List Nat)) := h
    simp at h'
    subst h'
    exact ⟨Nat.zero_le _, fun x hx => by simp at hx⟩
  | k + 1, n :: ns, o, h => by
    have h' : o ∈ (n :: ns).flatMap fun x => (ordersF k ((n :: ns).filter fun y => decide (y ≠ x))).map fun rest => x :: rest := h
    obtain ⟨x, hx, h1⟩ := List.mem_flatMap.mp h'
    obtain ⟨r, hr, rfl⟩ := List.mem_map.mp h1
    obtain ⟨a, b⟩ := ordersF_mem k _ r hr
    refine ⟨by rw [List.length_cons]; omega, fun z hz => ?_⟩
    rcases List.mem_cons.mp hz with rfl | hz
    · exact hx
    · exact (List.mem_filter.mp (b z hz)).1
def minFst (l : List (Int × List Int)) : Int := match l with
  | [] => 0
  | x :: xs => (minE ltC x xs).1
/-- the orders told with their costs -/
def bestL (rows : List (Int × List Nat)) : List (List Nat) := (rows.filter fun p => decide (p.1 = minFst (rows.map fun q => (q.1, natsI q.2)))).map (·.2)
theorem noDicts_ints : ∀ ns : List Int, noDicts (ns.map PyData.int) = true
  | [] => by rw [List.map_nil, noDicts]
  | n :: ns => by rw [List.map_cons, noDicts, noDicts_ints ns]; rfl
theorem noDicts_cost : ∀ xs : List (Int × List Int), noDicts (xs.map costD) = true
  | [] => by rw [List.map_nil, noDicts]
  | x :: xs => by
    rw [List.map_cons, noDicts, noDicts_cost xs, Bool.and_true]
    simp [costD, noDict, noDicts, noDicts_ints]
theorem depth_cost (p : Int × List Int) : (costD p).depth ≤ 6 := by
  unfold costD
  have := depth_ints p.2
  simp only [PyData.depth, PyData.depthAll]
  omega
section
variable {T : Tx} (B : Blt T)
include B
def spPriceOf : DSpec := fun ds d => ∃ h ss order, HOk h ∧ SsOk ss ∧ ss.length ≤ 3 ∧ (∀ i ∈ order, i < ss.length) ∧ order.length ≤ 100 ∧ (∀ p, planBy h ss order = some p → p.length ≤ 1000 ∧ ∃ x, leastOf h ss = some x) ∧ ds = [encH h, encSs ss, encNs order] ∧ d = encO (priceOf h ss order)
theorem F_priceOf (FP : DFn T 5 "plan_by" spPlanBy) (FC : DFn T 2 "cost_of" spCost) (FL : DFn T 5 "least_of" spLeast) (D : DefAt T "price_of" sPriceOf pPriceOf) : DFn T 6 "price_of" spPriceOf := by
  refine dfn_of (N := nPriceOf) D scPriceOf stPriceOf (fun ds d h => ?_) (fun ds d h Z ok => ?_)
  · obtain ⟨h, ss, order, _, _, _, _, _, _, rfl, rfl⟩ := h; rfl
  · obtain ⟨h, ss, order, hk, sk, h3, hord, hol, hle, rfl, rfl⟩ := h
    refine dss_cons (ds_asg (de_call FP (das_cons (de_var 0 rfl) (das_cons (de_var 1 rfl) (das_cons (de_var 2 rfl) das_nil))) ⟨h, ss, order, hk, sk, h3, hord, hol, rfl, rfl⟩) (dg_name 3)) ?_
    refine dss_at [.dat (encH h), .dat (encSs ss), .dat (encNs order), .dat (encPO (planBy h ss order))] ?_
    cases e : planBy h ss order with
    | none =>
      refine dss_one (ds_ret (de_ifT (dt_eq (dt_cmp (de_isN (de_var 3 rfl))) rfl) de_non) ?_)
      unfold priceOf
      rw [e]
      rfl
    | some p =>
      obtain ⟨hp, x, hx⟩ := hle p e
      refine dss_one (ds_ret (de_ifF (dt_eq (dt_cmp (de_isN (de_var 3 rfl))) rfl) (de_sub (j := x) (de_call FC (das_cons (de_var 1 rfl) (das_cons (de_var 3 rfl) das_nil)) ⟨ss, p, sk, hp, rfl, rfl⟩) (de_to (de_call FL (das_cons (de_var 0 rfl) (das_cons (de_var 1 rfl) das_nil)) ⟨h, ss, hk, sk, h3, rfl, rfl⟩) (by rw [hx]; rfl)))) ?_)
      unfold priceOf
      rw [e, hx]
      rfl
def spO (k : Nat) : DSpec := fun ds d => ∃ names, names.length ≤ k ∧ k ≤ 4 ∧ ds = [encNs names] ∧ d = .list ((ordersF k names).map encNs)
theorem F_orders (D : DefAt T "orders" sOrders pOrders) : ∀ k, DFn T (k + 1) "orders" (spO k) := by
  intro k
  induction k with
  | zero =>
    refine dfn_of (N := nOrders) D scOrders stOrders (fun ds d h => ?_) (fun ds d h Z ok => ?_)
    · obtain ⟨names, _, _, rfl, rfl⟩ := h; rfl
    · obtain ⟨names, hn, _, rfl, rfl⟩ := h
      cases names with
      | cons n ns => simp at hn
      | nil => exact dss_if2 (dt_not (dt_list (de_var 0 rfl))) (fun _ => retB (DN.e (dn_lst (das_cons (DN.e (dn_lst das_nil)) das_nil))) rfl) (fun z => by cases z)
  | succ k ih =>
    refine dfn_of (N := nOrders) D scOrders stOrders (fun ds d h => ?_) (fun ds d h Z ok => ?_)
    · obtain ⟨names, _, _, rfl, rfl⟩ := h; rfl
    · obtain ⟨names, hn, hk4, rfl, rfl⟩ := h
      cases names with
      | nil => exact dss_if2 (dt_not (dt_list (de_var 0 rfl))) (fun _ => retB (DN.e (dn_lst (das_cons (DN.e (dn_lst das_nil)) das_nil))) rfl) (fun z => by cases z)
      | cons n ns =>
        refine dss_if2 (dt_not (dt_list (de_var 0 rfl))) (fun z => by cases z) (fun _ => nilB ?_)
        let sub : Nat → List Nat := fun x => (n :: ns).filter fun y => decide (y ≠ x)
        let ys : List (List PyData) := (n :: ns).map fun x => (ordersF k (sub x)).map fun rest => encNs (x :: rest)
        have hfl : ys.flatten = (ordersF (k + 1) (n :: ns)).map encNs := by
          show ((n :: ns).map _).flatten = ((n :: ns).flatMap _).map encNs
          rw [← List.flatMap_def, List.map_flatMap]
          congr 1
          funext x
          rw [List.map_map]
          rfl
        rw [← hfl]
        have hlen : (n :: ns).length ≤ 4 := by omega
        refine dss_one (ds_ret (DN.e (dn_lc2 [("name", 1), ("rest", 2)] [2] (by decide) (di_list (de_var 0 rfl)) (by simp [ys]) ?_ (fun i hi => ?_))) rfl)
        · rw [hfl, List.length_map]
          refine Nat.le_trans (ordersF_len (k + 1) _ hlen) ?_
          have : 4 ^ (k + 1) ≤ 4 ^ 4 := Nat.pow_le_pow_right (by decide) hk4
          omega
        · have hi' : i < (n :: ns).length := by rw [List.length_map] at hi; exact hi
          have e1 : ((n :: ns).map fun i => PyData.int ((i : Nat) : Int))[i] = .int (((n :: ns)[i] : Nat) : Int) := by rw [List.getElem_map]
          have e2 : ys[i]'(by simp [ys]; exact hi') = (ordersF k (sub (n :: ns)[i])).map fun rest => encNs ((n :: ns)[i] :: rest) := by
            simp only [ys, List.getElem_map]
          rw [e1]
          generalize hx : (n :: ns)[i] = x at e2
          have hxm : x ∈ n :: ns := by rw [← hx]; exact List.getElem_mem hi'
          have hsl : (sub x).length ≤ k := by
            have h1 : (sub x).length < (n :: ns).length := by
              have := List.length_filter_lt_length_iff_exists (p := fun y => decide (y ≠ x)) (l := n :: ns)
              exact this.mpr ⟨x, hxm, by simp⟩
            have h2 : (n :: ns).length ≤ k + 1 := hn
            omega
          refine ⟨_, _, (ordersF k (sub x)).map encNs, dg_name 1, by decide, rfl, di_list (de_call ih (das_cons (DN.e (dn_lc [("other", 3)] (ys := (sub x).map fun i => PyData.int ((i : Nat) : Int)) (di_list (de_var 0 rfl)) (by rw [List.length_map]; omega) (gives_filter _ 0 fun j y hy => lct_if (dg_name 3) (dts_one (dt_cmp (de_neI (de_var 3 rfl) (de_var 1 rfl)))) (fun _ => de_var 3 rfl) (by simp; omega)))) das_nil) ⟨sub x, hsl, by omega, rfl, rfl⟩ (hk := Nat.le_refl _)), by rw [e2, List.length_map, List.length_map], fun j hj hj' => ?_⟩
          have hjo : j < (ordersF k (sub x)).length := by rw [List.length_map] at hj; exact hj
          have e3 : ((ordersF k (sub x)).map encNs)[j] = encNs ((ordersF k (sub x))[j]'hjo) := by rw [List.getElem_map]
          have e4 : (ys[i]'(by simp [ys]; exact hi'))[j]'hj' = encNs (x :: (ordersF k (sub x))[j]'hjo) := by
            simp only [e2, List.getElem_map]
          rw [e3, e4]
          refine ⟨_, _, dg_name 2, by decide, de_to (DN.e (dn_cat (DN.e (dn_lst (das_cons (de_var 1 rfl) das_nil))) (de_var 2 rfl) ?_)) rfl⟩
          have := (ordersF_mem k (sub x) _ (List.getElem_mem hjo)).1
          rw [List.length_map]
          simp only [List.length_cons, List.length_nil]
          omega
def spBest : DSpec := fun ds d => ∃ h ss, HOk h ∧ SsOk ss ∧ ss.length ≤ 3 ∧ (∀ o p, planBy h ss o = some p → p.length ≤ 1000) ∧ ds = [encH h, encSs ss] ∧ d = .list ((bestL (orderCosts h ss)).map encNs)
theorem F_best (FO : DFn T 5 "orders" (spO 4)) (FP : DFn T 5 "plan_by" spPlanBy) (FC : DFn T 2 "cost_of" spCost) (D : DefAt T "best_orders" sBest pBest) : DFn T 6 "best_orders" spBest := by
  refine dfn_of (N := nBest) D scBest stBest (fun ds d h => ?_) (fun ds d h Z ok => ?_)
  · obtain ⟨h, ss, _, _, _, _, rfl, rfl⟩ := h; rfl
  · obtain ⟨h, ss, hk, sk, h3, hpl, rfl, rfl⟩ := h
    let os := ordersF 4 (List.range ss.length)
    let row : List Nat → Option (Int × List Nat) := fun o => (planBy h ss o).map fun p => (costOf ss p, o)
    let ec : Int × List Nat → PyData := fun q => costD (q.1, natsI q.2)
    have hol : os.length ≤ 256 := by
      have := ordersF_len 4 (List.range ss.length) (by rw [List.length_range]; omega)
      exact this
    refine dss_cons (ds_new 2 (dn_lst das_nil)) ?_
    refine dss_at [.dat (encH h), .dat (encSs ss), .own [], .unk, .unk, .unk] ?_
    refine dss_forC (fun i => [.dat (encH h), .dat (encSs ss), .own (((os.take i).filterMap row).map ec), .unk, .unk, .unk]) (by repeat constructor) (di_list (de_call FO (das_cons (DN.e (dn_listRange B (de_len B (de_var 1 rfl)) (by omega) (by rw [List.length_map]; omega))) das_nil) ⟨List.range ss.length, by rw [List.length_range]; omega, by decide, by rw [List.length_map, Int.toNat_natCast]; rfl, rfl⟩)) (fun i d hd => ?_) ?_
    · rw [List.getElem?_map] at hd
      obtain ⟨o, ho, rfl⟩ := Option.map_eq_some_iff.mp hd
      obtain ⟨m1, m2⟩ := ordersF_mem 4 _ o (List.mem_of_getElem? ho)
      have tx : (os.take (i + 1)).filterMap row = (os.take i).filterMap row ++ (row o).toList := by
        obtain ⟨hi, e⟩ := List.getElem?_eq_some_iff.mp ho
        rw [List.take_succ_eq_append_getElem hi, List.filterMap_append, e]
        cases hr : row o with
        | none => simp [List.filterMap, hr]; rfl
        | some y => simp [List.filterMap, hr]; rfl
      have tl : (((os.take i).filterMap row).map ec).length ≤ 256 := by
        rw [List.length_map]
        refine Nat.le_trans (List.length_filterMap_le _ _) ?_
        rw [List.length_take]
        omega
      rw [tx, List.map_append]
      generalize ((os.take i).filterMap row).map ec = acc at tl
      refine ⟨_, _, dg_name 3, [.dat (encH h), .dat (encSs ss), .own (acc ++ (row o).toList.map ec), .dat (encNs o), .dat (encPO (planBy h ss o)), .unk], ?_, .keep (.keep (.keep (.drop (.drop (.keep .nil)))))⟩
      refine dss_cons (ds_asg (de_call FP (das_cons (de_var 0 rfl) (das_cons (de_var 1 rfl) (das_cons (de_var 3 rfl) das_nil))) ⟨h, ss, o, hk, sk, h3, fun x hx => by have := m2 x hx; simpa using this, by omega, rfl, rfl⟩) (dg_name 4)) ?_
      refine dss_at [.dat (encH h), .dat (encSs ss), .own acc, .dat (encNs o), .dat (encPO (planBy h ss o)), .unk] ?_
      cases hp : planBy h ss o with
      | none =>
        have e : row o = none := by show (planBy h ss o).map _ = none; rw [hp]; rfl
        rw [e]
        exact dss_if2 (dt_cmp (de_notN (de_var 4 rfl))) (fun z => by cases z) (fun _ => nilB (dss_to dss_nil (by show _ = [SV.dat (encH h), .dat (encSs ss), .own (acc ++ []), .dat (encNs o), .dat .none, .unk]; rw [List.append_nil]; rfl)))
      | some p =>
        have e : row o = some (costOf ss p, o) := by show (planBy h ss o).map _ = _; rw [hp]; rfl
        rw [e]
        refine dss_if2 (dt_cmp (de_notN (de_var 4 rfl))) (fun _ => ⟨_, dss_one (ds_append 2 rfl (de_tup (das_cons (de_call FC (das_cons (de_var 1 rfl) (das_cons (de_var 4 rfl) das_nil)) ⟨ss, p, sk, hpl o p hp, rfl, rfl⟩) (das_cons (de_var 3 rfl) das_nil))) (by omega)), dss_to dss_nil ?_⟩) (fun z => by cases z)
        show _ = [SV.dat (encH h), .dat (encSs ss), .own (acc ++ [costD (costOf ss p, natsI o)]), .dat (encNs o), .dat (encPl p), .unk]
        unfold costD
        rw [← encNs_eq]
        rfl
    · have hfin : ((os.take (List.map encNs (ordersF 4 (List.range ss.length))).length).filterMap row).map ec = (orderCosts h ss).map ec := by
        rw [List.length_map, List.take_length]
        rfl
      rw [hfin]
      have hcl : (orderCosts h ss).length ≤ 256 := by
        refine Nat.le_trans (List.length_filterMap_le _ _) hol
      generalize orderCosts h ss = rows at hcl
      have hce : rows.map ec = (rows.map fun q => (q.1, natsI q.2)).map costD := by rw [List.map_map]; rfl
      refine dss_rel 2 rfl ?_
      refine dss_at [.dat (encH h), .dat (encSs ss), .dat (.list (rows.map ec)), .unk, .unk, .unk] ?_
      have hb : (bestL rows).map encNs = (rows.filter fun p => decide (p.1 = minFst (rows.map fun q => (q.1, natsI q.2)))).map fun p => encNs p.2 := by
        unfold bestL
        rw [List.map_map]
        rfl
      rw [hb]
      refine dss_one (ds_ret (DN.e (dn_lc [("order", 3), ("cost", 5)] (di_list (de_var 2 rfl)) (by rw [List.length_map]; omega) (gives_filter rows 0 fun j x hx => ?_))) rfl)
      obtain ⟨c, o⟩ := x
      cases hr : rows with
      | nil => rw [hr] at hx; simp at hx
      | cons y ys =>
        have hex : ec (c, o) = .tuple [.int c, encNs o] := by rw [encNs_eq]; rfl
        rw [hex]
        let qn : Int × List Nat → Int × List Int := fun q => (q.1, natsI q.2)
        have he : PyData.list ((y :: ys).map ec) = .list (costD (qn y) :: (ys.map qn).map costD) := by rw [List.map_cons, List.map_map]; rfl
        have hA : PySem.W.AllAlike (costD (qn y) :: (ys.map qn).map costD) := alikeAll_enc alike_cost (qn y :: ys.map qn)
        have hnd : noDicts (costD (qn y) :: (ys.map qn).map costD) = true := noDicts_cost (qn y :: ys.map qn)
        have hm : ∀ d ∈ costD (qn y) :: (ys.map qn).map costD, d ≠ .none ∧ d.depth ≤ 6 := fun d hd => by
          obtain ⟨z, _, rfl⟩ := List.mem_map.mp (show d ∈ (qn y :: ys.map qn).map costD from hd)
          exact ⟨(fun e => nomatch e : costD z ≠ .none), depth_cost z⟩
        exact lct_if (dg_tup (dgs_cons (dg_name 5) (dgs_cons (dg_name 3) dgs_nil))) (dts_one (dt_cmp (de_eqI (j := minFst ((y :: ys).map qn)) (de_var 5 rfl) (de_ixT (ds := [.int (minE ltC (qn y) (ys.map qn)).1, .list ((minE ltC (qn y) (ys.map qn)).2.map PyData.int)]) (de_to (de_minD B (d := costD (qn y)) (ds := (ys.map qn).map costD) (de_to (de_var 2 rfl) he) hnd ⟨hA, fun d hd => (hm d hd).1⟩ (depthAll_le fun d hd => (hm d hd).2)) (minD_enc lt_cost _ _)) de_int (at_nat (by decide) rfl))))) (fun _ => de_var 3 rfl) (by rfl)
end
end TW

/-! Walks: a ship alone; the law's own defs. -/
namespace TW
open PySem PySem.Spec L2 DL
open PyProof.Rows hiding St
section
variable {T : Tx} (B : Blt T)
include B
def spAlone : DSpec := fun ds d => ∃ h s, HOk h ∧ SOk s ∧ ds = [encH h, encS s] ∧ d = encPl (plansAlone h s)
theorem F_alone (F : DFn T 4 "is_plan" spIsPlan) (D : DefAt T "plans_alone" sAlone pAlone) : DFn T 5 "plans_alone" spAlone := by
  refine dfn_of (N := nAlone) D scAlone stAlone (fun ds d h => ?_) (fun ds d h Z ok => ?_)
  · obtain ⟨h, s, _, _, rfl, rfl⟩ := h; rfl
  · obtain ⟨h, s, hk, sk, rfl, rfl⟩ := h
    obtain ⟨a1, a2, a3, a4, _, _, _, _, _⟩ := sk
    have l0 := hk.l0
    have l1 := hk.l1
    have bl := hk.bl
    let L := h.last + 1
    let nb : Int := (h.berths.length : Int)
    let fb : Int → Int → Int → List Mv := fun f o b => if isPlan h [s] [(f, b, o)] = true then [(f, b, o)] else []
    let fo : Int → Int → List Mv := fun f o => (rng 0 nb).flatMap (fb f o)
    let ff : Int → List Mv := fun f => (rng (f + s.stay + 1) L).flatMap (fo f)
    have rl : ∀ a b : Int, 0 ≤ a → b ≤ 41 → (rng a b).length ≤ 41 := fun a b h1 h2 => by rw [rng_len]; omega
    have fbl : ∀ f o b, (fb f o b).length ≤ 1 := fun f o b => by
      show (if _ then [(f, b, o)] else []).length ≤ 1
      split <;> simp
    have fol : ∀ f o, (fo f o).length ≤ 41 := fun f o => by
      have := flat_le (fb f o) 1 (rng 0 nb) (fun b _ => fbl f o b)
      have h2 := rl 0 nb (by omega) (by omega)
      show ((rng 0 nb).flatMap (fb f o)).length ≤ 41
      omega
    have ffl : ∀ f, 0 ≤ f → (ff f).length ≤ 1700 := fun f hf => by
      have := flat_le (fo f) 41 (rng (f + s.stay + 1) L) (fun o _ => fol f o)
      have h2 := rl (f + s.stay + 1) L (by omega) (by omega)
      show ((rng (f + s.stay + 1) L).flatMap (fo f)).length ≤ 1700
      omega
    have rpos : ∀ (a b : Int) (i : Nat) (x : Int), 0 ≤ a → (rng a b)[i]? = some x → 0 ≤ x := fun a b i x h1 hx => by
      obtain ⟨e, _⟩ := rng_get hx
      omega
    refine dss_cons (ds_new 2 (dn_lst das_nil)) ?_
    refine dss_at [.dat (encH h), .dat (encS s), .own [], .unk, .unk, .unk] ?_
    let aAt : Nat → List Mv := fun i => ((rng s.ready L).take i).flatMap ff
    have al : ∀ i, (aAt i).length ≤ 70000 := fun i => by
      have := flat_le ff 1700 ((rng s.ready L).take i) (fun f hf => by
        obtain ⟨j, hj⟩ := List.getElem?_of_mem (List.mem_of_mem_take hf)
        exact ffl f (rpos _ _ j f a1 hj))
      have h2 := rl s.ready L a1 (by omega)
      rw [List.length_take] at this
      show (((rng s.ready L).take i).flatMap ff).length ≤ 70000
      have h3 : min i (rng s.ready L).length ≤ 41 := by omega
      have := Nat.mul_le_mul_right 1700 h3
      omega
    refine dss_forC (fun i => [.dat (encH h), .dat (encS s), .own ((aAt i).map encM), .unk, .unk, .unk]) (by repeat constructor) (di_range2 B (de_ixT (de_var 1 rfl) de_int (at_nat (by decide) rfl)) (de_add (de_ixT (de_var 0 rfl) de_int (at_nat (by decide) rfl)) de_int) (by omega) (by omega) (by omega) (by omega)) (fun i d hd => ?_) ?_
    · have hd' : ((rng s.ready L).map PyData.int)[i]? = some d := by rw [← rngD_rng]; exact hd
      rw [List.getElem?_map] at hd'
      obtain ⟨f, hf, rfl⟩ := Option.map_eq_some_iff.mp hd'
      have hf0 := rpos _ _ i f a1 hf
      have hf1 := (rng_get hf).2
      have hf2 := (rng_get hf).1
      have ax : aAt (i + 1) = aAt i ++ ff f := take_flatMap ff hf
      have hal := al i
      rw [ax]
      generalize aAt i = acc at hal
      refine ⟨_, _, dg_name 3, [.dat (encH h), .dat (encS s), .own ((acc ++ ff f).map encM), dI f, .unk, .unk], ?_, .keep (.keep (.keep (.drop (.keep (.keep .nil)))))⟩
      let oAt : Nat → List Mv := fun j => ((rng (f + s.stay + 1) L).take j).flatMap (fo f)
      have ol : ∀ j, (oAt j).length ≤ 1700 := fun j => by
        have := flat_le (fo f) 41 ((rng (f + s.stay + 1) L).take j) (fun o _ => fol f o)
        have h2 := rl (f + s.stay + 1) L (by omega) (by omega)
        rw [List.length_take] at this
        show (((rng (f + s.stay + 1) L).take j).flatMap (fo f)).length ≤ 1700
        omega
      refine dss_forC (fun j => [.dat (encH h), .dat (encS s), .own ((acc ++ oAt j).map encM), dI f, .unk, .unk]) (by show Wk _ [SV.dat (encH h), .dat (encS s), .own ((acc ++ []).map encM), dI f, .unk, .unk]; rw [List.append_nil]; repeat constructor) (di_range2 B (de_add (de_add (de_var 3 rfl) (de_ixT (de_var 1 rfl) de_int (at_nat (by decide) rfl))) de_int) (de_add (de_ixT (de_var 0 rfl) de_int (at_nat (by decide) rfl)) de_int) (by omega) (by omega) (by omega) (by omega)) (fun j d hd => ?_) ?_
      · have hd' : ((rng (f + s.stay + 1) L).map PyData.int)[j]? = some d := by rw [← rngD_rng]; exact hd
        rw [List.getElem?_map] at hd'
        obtain ⟨o, ho, rfl⟩ := Option.map_eq_some_iff.mp hd'
        have ox : oAt (j + 1) = oAt j ++ fo f o := take_flatMap (fo f) ho
        have hol := ol j
        rw [ox, ← List.append_assoc]
        have hbase : (acc ++ oAt j).length ≤ 80000 := by rw [List.length_append]; omega
        generalize acc ++ oAt j = base at hbase
        refine ⟨_, _, dg_name 4, [.dat (encH h), .dat (encS s), .own ((base ++ fo f o).map encM), dI f, dI o, .unk], ?_, .keep (.keep (.keep (.keep (.drop (.keep .nil)))))⟩
        let bAt : Nat → List Mv := fun k => ((rng 0 nb).take k).flatMap (fb f o)
        have bll : ∀ k, (bAt k).length ≤ 41 := fun k => by
          have := flat_le (fb f o) 1 ((rng 0 nb).take k) (fun b _ => fbl f o b)
          have h2 := rl 0 nb (by omega) (by omega)
          rw [List.length_take] at this
          show (((rng 0 nb).take k).flatMap (fb f o)).length ≤ 41
          omega
        refine dss_forC (fun k => [.dat (encH h), .dat (encS s), .own ((base ++ bAt k).map encM), dI f, dI o, .unk]) (by show Wk _ [SV.dat (encH h), .dat (encS s), .own ((base ++ []).map encM), dI f, dI o, .unk]; rw [List.append_nil]; repeat constructor) (di_range1 B (de_len B (de_ixT (de_var 0 rfl) de_int (at_nat (by decide) rfl))) (by omega) (by rw [List.length_map]; omega)) (fun k d hd => ?_) ?_
        · have hd' : ((rng 0 nb).map PyData.int)[k]? = some d := by
            rw [← rngD_rng]
            rw [List.length_map] at hd
            exact hd
          rw [List.getElem?_map] at hd'
          obtain ⟨b, hb, rfl⟩ := Option.map_eq_some_iff.mp hd'
          have bx : bAt (k + 1) = bAt k ++ fb f o b := take_flatMap (fb f o) hb
          have hbl := bll k
          rw [bx, ← List.append_assoc]
          have hbase2 : (base ++ bAt k).length ≤ 90000 := by rw [List.length_append]; omega
          generalize base ++ bAt k = bs at hbase2
          refine ⟨_, _, dg_name 5, [.dat (encH h), .dat (encS s), .own ((bs ++ fb f o b).map encM), dI f, dI o, dI b], ?_, .keep (.keep (.keep (.keep (.keep (.drop .nil)))))⟩
          refine dss_at [.dat (encH h), .dat (encS s), .own (bs.map encM), dI f, dI o, dI b] ?_
          refine dss_if2 (dt_val (de_call F (das_cons (de_var 0 rfl) (das_cons (DN.e (dn_lst (das_cons (de_var 1 rfl) das_nil))) (das_cons (DN.e (dn_lst (das_cons (de_tup (das_cons (de_var 3 rfl) (das_cons (de_var 5 rfl) (das_cons (de_var 4 rfl) das_nil)))) das_nil))) das_nil))) ⟨h, [s], [(f, b, o)], hk, by simp, by simp, rfl, rfl⟩)) (fun h5 => ⟨_, dss_one (ds_append 2 rfl (de_tup (das_cons (de_var 3 rfl) (das_cons (de_var 5 rfl) (das_cons (de_var 4 rfl) das_nil)))) (by rw [List.length_map]; omega)), dss_to dss_nil ?_⟩) (fun h5 => nilB (dss_to dss_nil ?_))
          · have e : fb f o b = [(f, b, o)] := if_pos h5
            rw [e, List.map_append]
            rfl
          · have e : fb f o b = [] := if_neg (by rw [h5]; decide)
            rw [e, List.append_nil]
        · exact dss_to dss_nil (by
            show _ = [SV.dat (encH h), .dat (encS s), .own ((base ++ (rng 0 nb).flatMap (fb f o)).map encM), dI f, dI o, .unk]
            rw [rngD_length, List.length_map]
            show [SV.dat (encH h), .dat (encS s), .own ((base ++ ((rng 0 nb).take (nb - 0).toNat).flatMap (fb f o)).map encM), dI f, dI o, .unk] = _
            rw [← rng_len, List.take_length])
      · exact dss_to dss_nil (by
          show [SV.dat (encH h), .dat (encS s), .own ((acc ++ ((rng (f + s.stay + 1) L).take (rngD (f + s.stay + 1) L).length).flatMap (fo f)).map encM), dI f, .unk, .unk] = [SV.dat (encH h), .dat (encS s), .own ((acc ++ ff f).map encM), dI f, .unk, .unk]
          rw [rngD_length, ← rng_len, List.take_length])
    · refine dss_rel 2 rfl (dss_one (ds_ret (de_var 2 rfl) ?_))
      show PyData.list ((((rng s.ready L).take (rngD s.ready L).length).flatMap ff).map encM) = _
      rw [rngD_length, ← rng_len, List.take_length]
      rfl
def encMo : Option Mv → PyData
  | none => .none
  | some m => encM m
def spSoon : DSpec := fun ds d => ∃ h s, HOk h ∧ SOk s ∧ ds = [encH h, encS s] ∧ d = encMo (soonest h s)
theorem F_soon (F : DFn T 5 "plans_alone" spAlone) (D : DefAt T "soonest" sSoon pSoon) : DFn T 6 "soonest" spSoon := by
  refine dfn_of (N := nSoon) D scSoon stSoon (fun ds d h => ?_) (fun ds d h Z ok => ?_)
  · obtain ⟨h, s, _, _, rfl, rfl⟩ := h; rfl
  · obtain ⟨h, s, hk, sk, rfl, rfl⟩ := h
    refine dss_cons (ds_asg (de_call F (das_cons (de_var 0 rfl) (das_cons (de_var 1 rfl) das_nil)) ⟨h, s, hk, sk, rfl, rfl⟩) (dg_name 2)) ?_
    refine dss_at [.dat (encH h), .dat (encS s), .dat (encPl (plansAlone h s))] ?_
    unfold soonest
    cases e : plansAlone h s with
    | nil => exact dss_one (ds_ret (de_ifF (dt_eq (dt_list (de_var 2 rfl)) rfl) de_non) rfl)
    | cons m ms => exact dss_one (ds_ret (de_ifT (dt_eq (dt_list (de_var 2 rfl)) rfl) (de_ixL (de_var 2 rfl) de_int (at_nat (by decide) rfl))) rfl)
end
end TW

/-! Walks: the law's own defs. -/
namespace TW
open PySem PySem.Spec L2 DL
open PyProof.Rows hiding St
section
variable {T : Tx} (B : Blt T)
include B
def lawRows : List (List Nat) := [[0], [0, 1], [1, 0], [0, 1, 2], [0, 2, 1], [1, 0, 2], [1, 2, 0], [2, 0, 1], [2, 1, 0]]
def spLOrders : DSpec := fun ds d => ∃ n : Nat, ds = [.int (n : Nat)] ∧ d = .list ((lawOrders n).map encNs)
theorem F_lorders (D : DefAt T "_law_orders" sLOrders pLOrders) : DFn T 1 "_law_orders" spLOrders := by
  refine dfn_of (N := nLOrders) D scLOrders stLOrders (fun ds d h => ?_) (fun ds d h Z ok => ?_)
  · obtain ⟨n, rfl, rfl⟩ := h; rfl
  · obtain ⟨n, rfl, rfl⟩ := h
    have one : ∀ {C : CS T} {r : Sls} {a : Nat} {j p q}, DE C (.List [.Constant (.int a) j p] q) r (encNs [a]) := DN.e (dn_lst (das_cons de_int das_nil))
    have two : ∀ {C : CS T} {r : Sls} {a b : Nat} {j p j2 p2 q}, DE C (.List [.Constant (.int a) j p, .Constant (.int b) j2 p2] q) r (encNs [a, b]) := DN.e (dn_lst (das_cons de_int (das_cons de_int das_nil)))
    have three : ∀ {C : CS T} {r : Sls} {a b c : Nat} {j p j2 p2 j3 p3 q}, DE C (.List [.Constant (.int a) j p, .Constant (.int b) j2 p2, .Constant (.int c) j3 p3] q) r (encNs [a, b, c]) := DN.e (dn_lst (das_cons de_int (das_cons de_int (das_cons de_int das_nil))))
    refine dss_cons (ds_asg (d := .list (lawRows.map encNs)) (DN.e (dn_lst (das_cons (one (a := 0)) (das_cons (two (a := 0) (b := 1)) (das_cons (two (a := 1) (b := 0)) (das_cons (three (a := 0) (b := 1) (c := 2)) (das_cons (three (a := 0) (b := 2) (c := 1)) (das_cons (three (a := 1) (b := 0) (c := 2)) (das_cons (three (a := 1) (b := 2) (c := 0)) (das_cons (three (a := 2) (b := 0) (c := 1)) (das_cons (three (a := 2) (b := 1) (c := 0)) das_nil))))))))) (by decide))) (dg_name 1)) ?_
    refine dss_at [dI (n : Nat), .dat (.list (lawRows.map encNs)), .unk] ?_
    refine dss_one (ds_ret (DN.e (dn_lc [("_law_order", 2)] (di_list (de_var 1 rfl)) (by rw [List.length_map]; decide) (gives_filter lawRows 0 fun j x hx => lct_if (dg_name 2) (dts_one (dt_cmp (de_eqI (de_len B (de_var 2 rfl)) (de_var 0 rfl)))) (fun _ => de_var 2 rfl) (by rw [List.length_map])))) ?_)
    show PyData.list ((lawRows.filter _).map _) = .list ((lawRows.filter fun o => decide (o.length = n)).map encNs)
    congr 2
    apply List.filter_congr
    intro x _
    by_cases h : x.length = n
    · simp [h]
    · have : ¬ ((x.length : Int) = (n : Int)) := by omega
      simp [h, this]
def spLHours : DSpec := fun ds d => ∃ h s, HOk h ∧ SOk s ∧ (∀ b ∈ h.berths, 0 ≤ b) ∧ ds = [encH h, encS s] ∧ d = .list ((lawHours h s).map pairI)
theorem F_lhours (D : DefAt T "_law_hours" sLHours pLHours) : DFn T 1 "_law_hours" spLHours := by
  refine dfn_of (N := nLHours) D scLHours stLHours (fun ds d h => ?_) (fun ds d h Z ok => ?_)
  · obtain ⟨h, s, _, _, _, rfl, rfl⟩ := h; rfl
  · obtain ⟨h, s, hk, sk, hb, rfl, rfl⟩ := h
    have l0 := hk.l0
    have l1 := hk.l1
    have hp : (0 : Int) < (h.depths.length : Int) := by
      have := List.length_pos_iff.mpr hk.d0
      omega
    have hm0 : ∀ b ∈ h.berths, b ≤ maxOf h.berths := (maxOf_le _ 0).2
    have hmm : maxOf h.berths ∈ h.berths := by
      rcases maxOf_mem h.berths 0 with e | e
      · obtain ⟨b, hbm⟩ := List.exists_mem_of_ne_nil _ hk.b0
        have h1 := hb b hbm
        have h2 := hm0 b hbm
        have e' : maxOf h.berths = 0 := e
        have : b = maxOf h.berths := by omega
        rw [← this]; exact hbm
      · exact e
    let dp := deepOf h s
    have dpl : dp.length ≤ 41 := by
      refine Nat.le_trans (List.length_filter_le _ _) ?_
      rw [rng_len]
      omega
    refine dss_cons (ds_asg (de_var 0 rfl) (dg_tup (dgs_cons (dg_name 2) (dgs_cons (dg_name 3) (dgs_cons (dg_name 4) (dgs_cons (dg_name 5) (dgs_cons (dg_name 6) dgs_nil))))))) ?_
    refine dss_cons (ds_asg (de_var 1 rfl) (dg_tup (dgs_cons (dg_name 7) (dgs_cons (dg_name 8) (dgs_cons (dg_name 9) (dgs_cons (dg_name 10) (dgs_cons (dg_name 11) (dgs_cons (dg_name 12) (dgs_cons (dg_name 13) dgs_nil))))))))) ?_
    refine dss_at [.dat (encH h), .dat (encS s), .dat (encIs h.depths), .dat (encIs h.berths), dI h.tugs, dI h.pilots, dI h.last, dI s.ready, dI s.length, dI s.draught, dI s.stay, dI s.need, dI s.sea, dI s.lie, .unk, .unk, .unk, .unk, .unk] ?_
    refine dss_cons (ds_newLc 14 [("_law_hour", 17)] (ys := dp.map PyData.int) (di_range1 B (de_add (de_var 6 rfl) de_int) (by omega) (by omega)) (by rw [rngD_length]; omega) (by
      rw [rngD_rng]
      refine gives_filter (f := PyData.int) (rng 0 (h.last + 1)) 0 fun j x hx => ?_
      have h1 := Int.emod_nonneg x (show (h.depths.length : Int) ≠ 0 by omega)
      have h2 := Int.emod_lt_of_pos x hp
      exact lct_if (dg_name 17) (dts_one (dt_cmp (de_ge (de_ixL (de_var 2 rfl) (de_mod (de_intI B (de_var 17 rfl)) (de_len B (de_var 2 rfl)) (by rw [List.length_map]; exact hp)) (show _ = some (PyData.int (depthAt h x)) from by
        rw [List.length_map]
        exact at_nat h1 (get_nat h1 h2))) (de_var 9 rfl)))) (fun _ => de_var 17 rfl) rfl)) ?_
    refine dss_rel 14 rfl ?_
    refine dss_at [.dat (encH h), .dat (encS s), .dat (encIs h.depths), .dat (encIs h.berths), dI h.tugs, dI h.pilots, dI h.last, dI s.ready, dI s.length, dI s.draught, dI s.stay, dI s.need, dI s.sea, dI s.lie, .dat (encIs dp), .unk, .unk, .unk, .unk] ?_
    refine dss_if2 (dw_or (dt_cmp (de_gt (de_var 11 rfl) (de_var 4 rfl))) (fun _ => dw_or1 (dt_cmp (de_lt (de_maxL B (de_var 3 rfl) hmm hm0) (de_var 8 rfl))))).t (fun h5 => retB (DN.e (dn_lst das_nil)) ?_) (fun h5 => nilB ?_)
    · unfold lawHours
      rw [if_pos (by simpa using h5)]
      rfl
    have h5' : ¬ (h.tugs < s.need ∨ maxOf h.berths < s.length) := by simpa using h5
    have hlh : lawHours h s = dp.flatMap fun f => (dp.filter fun o => decide (s.ready ≤ f) && decide (f + s.stay < o)).map fun o => (f, o) := by
      unfold lawHours
      rw [if_neg h5']
    rw [hlh]
    let ff : Int → List (Int × Int) := fun f => (dp.filter fun o => decide (s.ready ≤ f) && decide (f + s.stay < o)).map fun o => (f, o)
    have ffl : ∀ f, (ff f).length ≤ 41 := fun f => by
      show ((dp.filter _).map _).length ≤ 41
      rw [List.length_map]
      exact Nat.le_trans (List.length_filter_le _ _) dpl
    refine dss_cons (ds_asg (DN.e (dn_lst das_nil)) (dg_name 15)) ?_
    refine dss_at [.dat (encH h), .dat (encS s), .dat (encIs h.depths), .dat (encIs h.berths), dI h.tugs, dI h.pilots, dI h.last, dI s.ready, dI s.length, dI s.draught, dI s.stay, dI s.need, dI s.sea, dI s.lie, .dat (encIs dp), .dat (.list (((dp.take 0).flatMap ff).map pairI)), .unk, .unk, .unk] ?_
    refine dss_forC (fun i => [.dat (encH h), .dat (encS s), .dat (encIs h.depths), .dat (encIs h.berths), dI h.tugs, dI h.pilots, dI h.last, dI s.ready, dI s.length, dI s.draught, dI s.stay, dI s.need, dI s.sea, dI s.lie, .dat (encIs dp), .dat (.list (((dp.take i).flatMap ff).map pairI)), .unk, .unk, .unk]) (by repeat constructor) (di_list (de_var 14 rfl)) (fun i d hd => ?_) ?_
    · rw [List.getElem?_map] at hd
      obtain ⟨f, hf, rfl⟩ := Option.map_eq_some_iff.mp hd
      have fx : (dp.take (i + 1)).flatMap ff = (dp.take i).flatMap ff ++ ff f := take_flatMap ff hf
      have fl : ((dp.take i).flatMap ff).length ≤ 1700 := by
        have := flat_le ff 41 (dp.take i) (fun f _ => ffl f)
        rw [List.length_take] at this
        have h3 : min i dp.length ≤ 41 := by omega
        have := Nat.mul_le_mul_right 41 h3
        omega
      rw [fx]
      generalize (dp.take i).flatMap ff = acc at fl
      refine ⟨_, _, dg_name 16, [.dat (encH h), .dat (encS s), .dat (encIs h.depths), .dat (encIs h.berths), dI h.tugs, dI h.pilots, dI h.last, dI s.ready, dI s.length, dI s.draught, dI s.stay, dI s.need, dI s.sea, dI s.lie, .dat (encIs dp), .dat (.list ((acc ++ ff f).map pairI)), dI f, .unk, .unk], ?_, .keep (.keep (.keep (.keep (.keep (.keep (.keep (.keep (.keep (.keep (.keep (.keep (.keep (.keep (.keep (.keep (.drop (.keep (.keep .nil))))))))))))))))))⟩
      have hffp : (ff f).map pairI = (dp.filter fun o => decide (s.ready ≤ f) && decide (f + s.stay < o)).map fun o => PyData.tuple [.int f, .int o] := by
        show ((dp.filter _).map _).map _ = _
        rw [List.map_map]
        rfl
      refine dss_to (dss_one (ds_asg (DN.e (dn_cat (de_var 15 rfl) (DN.e (dn_lc [("_law_out", 18)] (ys := (ff f).map pairI) (di_list (de_var 14 rfl)) (by rw [List.length_map]; omega) (by
        rw [hffp]
        exact gives_filter dp 0 fun j x hx => lct_if (dg_name 18) (dts_one (dw_and (dt_cmp (de_ge (de_var 16 rfl) (de_var 7 rfl))) (fun _ => dw_and1 (dt_cmp (de_gt (de_var 18 rfl) (de_add (de_var 16 rfl) (de_var 10 rfl)))))).t) (fun _ => de_tup (das_cons (de_var 16 rfl) (das_cons (de_var 18 rfl) das_nil))) rfl))) (by rw [List.length_map, List.length_map]; have := ffl f; omega))) (dg_name 15))) ?_
      rw [List.map_append]
      rfl
    · have hfin : (dp.take (List.map PyData.int dp).length).flatMap ff = dp.flatMap ff := by rw [List.length_map, List.take_length]
      rw [hfin]
      exact dss_one (ds_ret (de_var 15 rfl) rfl)
end
end TW

/-! Walks: the law's world. -/
namespace TW
open PySem PySem.Spec L2 DL
open PyProof.Rows hiding St
def worldH (g : Nat → Int) : Harbour := ⟨(rng 0 (1 + g 0 % 12)).map fun k => g (1 + k).toNat % 13, (rng 0 (1 + g 15 % 2)).map fun k => 3 + g (13 + k).toNat % 7, g 16 % 7, 1 + g 17 % 3, 8 + g 18 % 33⟩
def shipAt (g : Nat → Int) (k : Int) : Ship := ⟨g (20 + 7 * k).toNat % 12, 1 + g ((20 + 7 * k).toNat + 1) % 7, g ((20 + 7 * k).toNat + 2) % 11, 1 + g ((20 + 7 * k).toNat + 3) % 4, g ((20 + 7 * k).toNat + 4) % 4, g ((20 + 7 * k).toNat + 5) % 10, g ((20 + 7 * k).toNat + 6) % 10⟩
def worldS (g : Nat → Int) : List Ship := (rng 0 (1 + g 19 % 3)).map (shipAt g)
theorem worldH_ok (g : Nat → Int) : HOk (worldH g) ∧ ∀ b ∈ (worldH g).berths, 0 ≤ b := by
  have a0 := Int.emod_nonneg (g 0) (show (12 : Int) ≠ 0 by decide)
  have a1 := Int.emod_lt_of_pos (g 0) (show (0 : Int) < 12 by decide)
  have b0 := Int.emod_nonneg (g 15) (show (2 : Int) ≠ 0 by decide)
  have b1 := Int.emod_lt_of_pos (g 15) (show (0 : Int) < 2 by decide)
  have c0 := Int.emod_nonneg (g 18) (show (33 : Int) ≠ 0 by decide)
  have c1 := Int.emod_lt_of_pos (g 18) (show (0 : Int) < 33 by decide)
  have hl : (worldH g).depths.length = (1 + g 0 % 12 - 0).toNat := by unfold worldH; simp only [List.length_map, rng_len]
  have hb : (worldH g).berths.length = (1 + g 15 % 2 - 0).toNat := by unfold worldH; simp only [List.length_map, rng_len]
  refine ⟨⟨fun e => ?_, by omega, fun e => ?_, by omega, ?_, ?_⟩, fun b hbm => ?_⟩
  · rw [e] at hl; simp at hl; omega
  · rw [e] at hb; simp at hb; omega
  · show 0 ≤ 8 + g 18 % 33; omega
  · show 8 + g 18 % 33 ≤ 40; omega
  · unfold worldH at hbm
    obtain ⟨k, _, rfl⟩ := List.mem_map.mp hbm
    have := Int.emod_nonneg (g (13 + k).toNat) (show (7 : Int) ≠ 0 by decide)
    omega
theorem shipAt_ok (g : Nat → Int) (k : Int) : SOk (shipAt g k) := by
  have e : ∀ (x m : Int), 0 < m → 0 ≤ x % m ∧ x % m < m := fun x m h => ⟨Int.emod_nonneg x (by omega), Int.emod_lt_of_pos x h⟩
  unfold shipAt
  have h1 := e (g (20 + 7 * k).toNat) 12 (by decide)
  have h2 := e (g ((20 + 7 * k).toNat + 3)) 4 (by decide)
  have h3 := e (g ((20 + 7 * k).toNat + 4)) 4 (by decide)
  have h4 := e (g ((20 + 7 * k).toNat + 5)) 10 (by decide)
  have h5 := e (g ((20 + 7 * k).toNat + 6)) 10 (by decide)
  constructor <;> simp only <;> omega
theorem worldS_ok (g : Nat → Int) : SsOk (worldS g) ∧ 1 ≤ (worldS g).length ∧ (worldS g).length ≤ 3 := by
  have a0 := Int.emod_nonneg (g 19) (show (3 : Int) ≠ 0 by decide)
  have a1 := Int.emod_lt_of_pos (g 19) (show (0 : Int) < 3 by decide)
  have hl : (worldS g).length = (1 + g 19 % 3 - 0).toNat := by unfold worldS; rw [List.length_map, rng_len]
  refine ⟨fun s hs => ?_, by omega, by omega⟩
  unfold worldS at hs
  obtain ⟨k, _, rfl⟩ := List.mem_map.mp hs
  exact shipAt_ok g k
section
variable {T : Tx} (B : Blt T)
include B
def spWorld : DSpec := fun ds d => ∃ ns : List Int, ns.length = 60 ∧ ds = [encIs ns] ∧ d = .tuple [encH (worldH fun i => ns.getD i 0), encSs (worldS fun i => ns.getD i 0)]
theorem F_world (D : DefAt T "_law_world" sLWorld pLWorld) : DFn T 1 "_law_world" spWorld := by
  refine dfn_of (N := nLWorld) D scLWorld stLWorld (fun ds d h => ?_) (fun ds d h Z ok => ?_)
  · obtain ⟨ns, _, rfl, rfl⟩ := h; rfl
  · obtain ⟨ns, hn, rfl, rfl⟩ := h
    let g : Nat → Int := fun i => ns.getD i 0
    have gt : ∀ i : Int, 0 ≤ i → i < 60 → L2.atI (ns.map PyData.int) i = some (PyData.int (g i.toNat)) := fun i h0 h1 => at_nat h0 (get_nat h0 (by omega))
    have a0 := Int.emod_nonneg (g 0) (show (12 : Int) ≠ 0 by decide)
    have a1 := Int.emod_lt_of_pos (g 0) (show (0 : Int) < 12 by decide)
    have b0 := Int.emod_nonneg (g 15) (show (2 : Int) ≠ 0 by decide)
    have b1 := Int.emod_lt_of_pos (g 15) (show (0 : Int) < 2 by decide)
    have c0 := Int.emod_nonneg (g 19) (show (3 : Int) ≠ 0 by decide)
    have c1 := Int.emod_lt_of_pos (g 19) (show (0 : Int) < 3 by decide)
    let W := worldH g
    refine dss_cons (ds_newLc 2 [("_law_k", 1)] (ys := W.depths.map PyData.int) (di_range1 B (n := 1 + g 0 % 12) (de_add de_int (de_mod (de_intI B (de_ixL (de_var 0 rfl) de_int (gt 0 (by decide) (by decide)))) de_int (by decide))) (by omega) (by omega)) (by rw [rngD_length]; omega) (by
      rw [rngD_rng]
      show Gives _ 0 _ (((rng 0 (1 + g 0 % 12)).map fun k => g (1 + k).toNat % 13).map PyData.int)
      rw [List.map_map]
      refine gives_map (rng 0 (1 + g 0 % 12)) 0 fun j x hx => ?_
      obtain ⟨e1, e2⟩ := rng_get hx
      exact lct_all (dg_name 1) (de_mod (de_intI B (de_ixL (de_var 0 rfl) (de_add de_int (de_var 1 rfl)) (gt (1 + x) (by omega) (by omega)))) de_int (by decide)))) ?_
    refine dss_cons (ds_newLc 3 [("_law_k", 1)] (ys := W.berths.map PyData.int) (di_range1 B (n := 1 + g 15 % 2) (de_add de_int (de_mod (de_intI B (de_ixL (de_var 0 rfl) de_int (gt 15 (by decide) (by decide)))) de_int (by decide))) (by omega) (by omega)) (by rw [rngD_length]; omega) (by
      rw [rngD_rng]
      show Gives _ 0 _ (((rng 0 (1 + g 15 % 2)).map fun k => 3 + g (13 + k).toNat % 7).map PyData.int)
      rw [List.map_map]
      refine gives_map (rng 0 (1 + g 15 % 2)) 0 fun j x hx => ?_
      obtain ⟨e1, e2⟩ := rng_get hx
      exact lct_all (dg_name 1) (de_add de_int (de_mod (de_intI B (de_ixL (de_var 0 rfl) (de_add de_int (de_var 1 rfl)) (gt (13 + x) (by omega) (by omega)))) de_int (by decide))))) ?_
    refine dss_rel 2 rfl (dss_rel 3 rfl ?_)
    refine dss_at [.dat (encIs ns), .unk, .dat (encIs W.depths), .dat (encIs W.berths), .unk, .unk, .unk, .unk] ?_
    refine dss_cons (ds_asg (d := encH W) (de_tup (das_cons (de_var 2 rfl) (das_cons (de_var 3 rfl) (das_cons (de_mod (de_intI B (de_ixL (de_var 0 rfl) de_int (gt 16 (by decide) (by decide)))) de_int (by decide)) (das_cons (de_add de_int (de_mod (de_intI B (de_ixL (de_var 0 rfl) de_int (gt 17 (by decide) (by decide)))) de_int (by decide))) (das_cons (de_add de_int (de_mod (de_intI B (de_ixL (de_var 0 rfl) de_int (gt 18 (by decide) (by decide)))) de_int (by decide))) das_nil)))))) (dg_name 4)) ?_
    refine dss_cons (ds_new 5 (dn_lst das_nil)) ?_
    refine dss_at [.dat (encIs ns), .unk, .dat (encIs W.depths), .dat (encIs W.berths), .dat (encH W), .own [], .unk, .unk] ?_
    let ks := rng 0 (1 + g 19 % 3)
    refine dss_forC (fun i => [.dat (encIs ns), .unk, .dat (encIs W.depths), .dat (encIs W.berths), .dat (encH W), .own (((ks.take i).map (shipAt g)).map encS), .unk, .unk]) (by repeat constructor) (di_range1 B (n := 1 + g 19 % 3) (de_add de_int (de_mod (de_intI B (de_ixL (de_var 0 rfl) de_int (gt 19 (by decide) (by decide)))) de_int (by decide))) (by omega) (by omega)) (fun i d hd => ?_) ?_
    · have hd' : (ks.map PyData.int)[i]? = some d := by rw [← rngD_rng]; exact hd
      rw [List.getElem?_map] at hd'
      obtain ⟨k, hk, rfl⟩ := Option.map_eq_some_iff.mp hd'
      obtain ⟨e1, e2⟩ := rng_get hk
      have kx : ((ks.take (i + 1)).map (shipAt g)).map encS = ((ks.take i).map (shipAt g)).map encS ++ [encS (shipAt g k)] := by
        obtain ⟨hi, e⟩ := List.getElem?_eq_some_iff.mp hk
        rw [List.take_succ_eq_append_getElem hi, List.map_append, List.map_append, e]
        rfl
      have kl : (((ks.take i).map (shipAt g)).map encS).length ≤ 3 := by
        rw [List.length_map, List.length_map, List.length_take, rng_len]
        omega
      rw [kx]
      generalize ((ks.take i).map (shipAt g)).map encS = acc at kl
      let a := (20 + 7 * k).toNat
      let part := (ns.drop a).take 7
      have ha : (20 + 7 * k) = (a : Int) := by show 20 + 7 * k = (((20 + 7 * k).toNat : Nat) : Int); omega
      have ha2 : a + 7 ≤ 60 := by show (20 + 7 * k).toNat + 7 ≤ 60; omega
      have hcut : DL.cutD (ns.map PyData.int) (some (20 + 7 * k)) (some (27 + 7 * k)) = part.map PyData.int := by
        have hb : (27 + 7 * k) = ((a + 7 : Nat) : Int) := by omega
        rw [hb, ha]
        unfold DL.cutD
        rw [HT.sIx_nat, HT.sIx_nat, List.length_map, hn, Nat.min_eq_left (by omega), Nat.min_eq_left (by omega), List.map_take, List.map_drop, show a + 7 - a = 7 by omega]
      have pt : ∀ j : Nat, j < 7 → L2.atI (part.map PyData.int) ((j : Nat) : Int) = some (PyData.int (g (a + j))) := fun j hj => at_nat (by omega) (by
        rw [Int.toNat_natCast, List.getElem?_map]
        show Option.map _ ((ns.drop a).take 7)[j]? = _
        rw [List.getElem?_take, if_pos hj, List.getElem?_drop, List.getElem?_eq_getElem (by omega)]
        show some (PyData.int ns[a + j]) = some (PyData.int (ns.getD (a + j) 0))
        rw [List.getD_eq_getElem?_getD, List.getElem?_eq_getElem (by omega)]
        rfl)
      let own : List Int := [g a % 12, 1 + g (a + 1) % 7, g (a + 2) % 11, 1 + g (a + 3) % 4]
      refine ⟨_, _, dg_name 1, [.dat (encIs ns), dI k, .dat (encIs W.depths), .dat (encIs W.berths), .dat (encH W), .own (acc ++ [encS (shipAt g k)]), .dat (encIs part), .dat (encIs own)], ?_, .keep (.drop (.keep (.keep (.keep (.keep (.drop (.drop .nil)))))))⟩
      refine dss_cons (ds_asg (d := encIs part) (de_to (DN.e (dn_slice (ol := some (20 + 7 * k)) (oh := some (27 + 7 * k)) (de_var 0 rfl) (dp_some (de_add de_int (de_mul de_int (de_var 1 rfl) (.inl ⟨by decide, by decide⟩)))) (dp_some (de_add de_int (de_mul de_int (de_var 1 rfl) (.inl ⟨by decide, by decide⟩)))))) (congrArg PyData.list hcut)) (dg_name 6)) ?_
      refine dss_at [.dat (encIs ns), dI k, .dat (encIs W.depths), .dat (encIs W.berths), .dat (encH W), .own acc, .dat (encIs part), .unk] ?_
      refine dss_cons (ds_asg (d := encIs own) (DN.e (dn_lst (das_cons (de_mod (de_intI B (de_ixL (de_var 6 rfl) de_int (pt 0 (by decide)))) de_int (by decide)) (das_cons (de_add de_int (de_mod (de_intI B (de_ixL (de_var 6 rfl) de_int (pt 1 (by decide)))) de_int (by decide))) (das_cons (de_mod (de_intI B (de_ixL (de_var 6 rfl) de_int (pt 2 (by decide)))) de_int (by decide)) (das_cons (de_add de_int (de_mod (de_intI B (de_ixL (de_var 6 rfl) de_int (pt 3 (by decide)))) de_int (by decide))) das_nil)))) (by show (4 : Nat) ≤ 1000000; decide))) (dg_name 7)) ?_
      refine dss_at [.dat (encIs ns), dI k, .dat (encIs W.depths), .dat (encIs W.berths), .dat (encH W), .own acc, .dat (encIs part), .dat (encIs own)] ?_
      exact dss_to (dss_one (ds_append 5 rfl (de_tupleL B (DN.e (dn_cat (de_var 7 rfl) (DN.e (dn_lst (das_cons (de_mod (de_intI B (de_ixL (de_var 6 rfl) de_int (pt 4 (by decide)))) de_int (by decide)) (das_cons (de_mod (de_intI B (de_ixL (de_var 6 rfl) de_int (pt 5 (by decide)))) de_int (by decide)) (das_cons (de_mod (de_intI B (de_ixL (de_var 6 rfl) de_int (pt 6 (by decide)))) de_int (by decide)) das_nil))))) (by show (4 : Nat) + 3 ≤ 1000000; decide)))) (by omega))) rfl
    · have hfin : ((ks.take (rngD 0 (1 + g 19 % 3)).length).map (shipAt g)).map encS = (worldS g).map encS := by
        rw [rngD_length, ← rng_len, List.take_length]
        rfl
      rw [hfin]
      exact dss_rel 5 rfl (dss_one (ds_ret (de_tup (das_cons (de_var 4 rfl) (das_cons (de_var 5 rfl) das_nil))) rfl))
end
end TW

/-! Walks: the law's draws. -/
namespace TW
open PySem PySem.Spec L2 DL
open PyProof.Rows hiding St
theorem same_l {K : PySem.W.Frag} {H H' : Hp} {a : Addr} {xs : List V} (e : Same H H') (h : SqL K H a xs) : SqL K H' a xs := by
  rcases h with h | h
  · refine .inl ?_
    rcases h with h | ⟨o, h⟩
    · exact .inl (e _ _ h)
    · exact .inr ⟨o, e _ _ h⟩
  · exact .inr h
/-- the script -/
def scrS (T : Tx) (xs : List Int) : SV := .gen (fun v G => ∃ a, v = .ref a ∧ SqL T.K G a (xs.map V.int)) fun v G G' s h => let ⟨a, e, q⟩ := h; ⟨a, e, same_l s q⟩
section
variable {T : Tx} {C : CS T} {r : Sls} {tg : Expr} {x : Str} {pos : Pos}
theorem di_scr (i : Nat) {xs : List Int} (hr : r[i]? = some (scrS T xs)) (hN : C.N[i]? = some x := by rfl) (hv : visB C.tab x = true := by rfl) (hd : (x == ("__debug__" : Str)) = false := by decide) (hcd : (x == ("__classdict__" : Str)) = false := by decide) : DI C tg (.Name x pos) r (xs.map PyData.int) := by
  refine ⟨iList T.K (tVar i), fun X hX => ?_, fun σ G H R e s q => ?_⟩
  · have c := C.ok X hX
    have hv1 : PE X (.Name x pos) (tVar i) := pe_var (by rw [c.eN]; exact hN) (vis_of (by rw [c.etab]; exact hv)) hd hcd
    have h := pi_list (tg := tg) hv1
    rw [c.eK] at h
    exact h
  · obtain ⟨v, e1, a, rfl, hq⟩ := s.at_ i _ hr
    refine ⟨_, e1, a, rfl, ⟨_, same_l e hq⟩, q _ G H (.refl e) ⟨fun i d G' H' hd s1 s2 => ?_, fun G' H' s1 s2 => ?_⟩⟩
    · rw [List.getElem?_map] at hd
      obtain ⟨n, hn, rfl⟩ := Option.map_eq_some_iff.mp hd
      have hq2 := same_l s2 (same_l s1 hq)
      have hv : (xs.map V.int)[i]? = some (V.int n) := by rw [List.getElem?_map, hn]; rfl
      refine ⟨⟨_, _, hq2, hv⟩, fun y H2 hy => ?_⟩
      obtain ⟨rfl, hy⟩ := hy
      have e3 := hy _ hq2
      rw [hv] at e3; cases e3
      exact ⟨G', .refl s2, .int n⟩
    · exact ⟨_, same_l s2 (same_l s1 hq), by simp⟩
end
def valD (rs : List Int) (k : Int) : Int × List Int :=
  if rs = [] then (0, rs)
  else if (10 : Int) ^ 18 ≤ rs.getD (k % (rs.length : Int)).toNat 0 then (rs.getD (k % (rs.length : Int)).toNat 0 % 1000, rs.set (k % (rs.length : Int)).toNat (rs.getD (k % (rs.length : Int)).toNat 0 / 1000))
  else (((((rs.getD (k % (rs.length : Int)).toNat 0 * 48271 + k * 69621 + 11) % 2147483647) * 16807 + k % (rs.length : Int)) % 2147483629 / 7) % 1000, rs)
def stepD (q : List Int × List Int) (k : Int) : List Int × List Int := ((valD q.1 k).2, q.2 ++ [(valD q.1 k).1])
theorem stepD_len : ∀ (ks : List Int) (q : List Int × List Int), (ks.foldl stepD q).2.length = q.2.length + ks.length
  | [], q => rfl
  | k :: ks, q => by
    rw [List.foldl_cons, stepD_len ks, List.length_cons]
    show (q.2 ++ [_]).length + _ = _
    rw [List.length_append, List.length_cons, List.length_nil]
    omega
section
variable {T : Tx} (B : Blt T)
include B
def spDraws (T : Tx) : Sp := fun vs H Q _ => ∃ (G : Hp) (a : Addr) (xs : List Int), vs = [.ref a, .int 60] ∧ Same G H ∧ SqL T.K G a (xs.map V.int) ∧ xs.length ≤ 63 ∧ ∀ (ns : List Int) v G' H', ns.length = 60 → Ext G H G' H' → Rp T G' v (encIs ns) → Q v H'
structure DrFn (T : Tx) (k : Nat) : Prop where
  ex : ∃ f fd ps, FnOk T.P T.w T.K T.mg T.base CX0 k f fd ps (spDraws T) ∧ T.mg "_law_draws" = some (.ref f) ∧ PySem.W.keepIn T.K (.ref f) = true ∧ Binds T.K fd ps []
theorem F_draws (D : DefAt T "_law_draws" sLDraws pLDraws) : DrFn T 1 := by
  obtain ⟨f, fd, F, hm, hb⟩ := D.ex
  refine ⟨f, fd, pLDraws, F.ok scLDraws (fun vs H Q E h => ?_) (fun cdv A outer s H vs Q E hr h => ?_), hm, F.kp, hb⟩
  · obtain ⟨G, a, xs, rfl, _⟩ := h
    rfl
  · obtain ⟨G, a, xs, rfl, hG, hq, hl, q⟩ := h
    let Z : Cx → Prop := fun Y => Y = (cxOf CX0 T.P T.w T.K T.mg T.base nLDraws "_law_draws" (defScope sLDraws) f cdv A outer s H E).nox
    have ok : ∀ X, Z X → CxIs T nLDraws tLDraws 0 (fun _ => true) X := fun X e => by
      subst e
      exact ⟨rfl, rfl, rfl, rfl, rfl, scLDraws.nd, rfl, stLDraws, scLDraws.kind, rfl, hr, fun _ _ => rfl, rfl⟩
    have body : DSs (CS.mk Z nLDraws tLDraws 0 (fun _ => true) ok) (defBody sLDraws) [scrS T xs, dI 60, .unk, .unk, .unk, .unk, .unk, .unk, .unk] (fun z => ∃ ns : List Int, ns.length = 60 ∧ z = encIs ns) [.bot] := by
      refine dss_cons (ds_newLc 2 [("_law_cell", 8)] (ys := xs.map PyData.int) (di_scr 0 rfl) (by rw [List.length_map]; omega) (gives_map xs 0 fun j x hx => lct_all (dg_name 8) (de_var 8 rfl))) ?_
      refine dss_cons (ds_new 3 (dn_lst das_nil)) ?_
      refine dss_at [scrS T xs, dI 60, .own (xs.map PyData.int), .own [], .unk, .unk, .unk, .unk, .unk] ?_
      let qAt : Nat → List Int × List Int := fun i => ((rng 0 60).take i).foldl stepD (xs, [])
      refine dss_forC (fun i => [scrS T xs, dI 60, .own ((qAt i).1.map PyData.int), .own ((qAt i).2.map PyData.int), .unk, .unk, .unk, .unk, .unk]) (by repeat constructor) (di_range1 B (de_var 1 rfl) (by decide) (by decide)) (fun i d hd => ?_) ?_
      · have hd' : ((rng 0 60).map PyData.int)[i]? = some d := by rw [← rngD_rng]; exact hd
        rw [List.getElem?_map] at hd'
        obtain ⟨k, hk, rfl⟩ := Option.map_eq_some_iff.mp hd'
        obtain ⟨k1, k2⟩ := rng_get hk
        have qx : qAt (i + 1) = stepD (qAt i) k := take_fold stepD (xs, []) hk
        have hdl : (qAt i).2.length ≤ 60 := by
          show (((rng 0 60).take i).foldl stepD (xs, [])).2.length ≤ 60
          rw [stepD_len, List.length_take, rng_len]
          simp only [List.length_nil]
          omega
        rw [qx]
        generalize qAt i = q at hdl
        obtain ⟨rs, dw⟩ := q
        simp only at hdl
        let O : List Int → SV := fun l => .own (l.map PyData.int)
        let v := (valD rs k).1
        let rs' := (valD rs k).2
        show ∃ r2 ix, DG _ _ _ _ r2 ix ∧ ∃ r3, DSs _ _ r2 _ r3 ∧ Wk r3 [scrS T xs, dI 60, O rs', O (dw ++ [v]), .unk, .unk, .unk, .unk, .unk]
        refine ⟨_, _, dg_name 4, [scrS T xs, dI 60, O rs', O (dw ++ [v]), dI k, dI v, .unk, .unk, .unk], ?_, .keep (.keep (.keep (.keep (.drop (.drop (.keep (.keep (.keep .nil))))))))⟩
        refine dss_cons (ds_asg de_int (dg_name 5)) ?_
        refine dss_at [scrS T xs, dI 60, O rs, O dw, dI k, dI 0, .unk, .unk, .unk] ?_
        refine dss_cons (ds_if (r1 := [scrS T xs, dI 60, O rs', O dw, dI k, dI v, .unk, .unk, .unk]) (dt_view (dt_cmp (de_gt (de_len B (de_var 2 rfl)) de_int))) (fun h5 => ?_) (fun h5 => ?_)) ?_
        · have hne : rs ≠ [] := fun e => by rw [e] at h5; simp at h5
          have hp : (0 : Int) < (rs.length : Int) := by
            have := List.length_pos_iff.mpr hne
            omega
          have m0 := Int.emod_nonneg k (show (rs.length : Int) ≠ 0 by omega)
          have m1 := Int.emod_lt_of_pos k hp
          let at' := k % (rs.length : Int)
          let y := rs.getD at'.toNat 0
          have hy : L2.atI (rs.map PyData.int) at' = some (PyData.int y) := at_nat m0 (get_nat m0 m1)
          refine dss_cons (ds_asg (d := .int at') (de_view (de_to (de_mod (de_intI B (de_var 4 rfl)) (de_len B (de_var 2 rfl)) (by rw [List.length_map]; exact hp)) (by rw [List.length_map]))) (dg_name 6)) ?_
          refine dss_at [scrS T xs, dI 60, O rs, O dw, dI k, dI 0, dI at', .unk, .unk] ?_
          by_cases hb : (10 : Int) ^ 18 ≤ y
          · have ev : valD rs k = (y % 1000, rs.set at'.toNat (y / 1000)) := by
              unfold valD
              rw [if_neg hne, if_pos hb]
            have e1 : v = y % 1000 := congrArg Prod.fst ev
            have e2 : rs' = rs.set at'.toNat (y / 1000) := congrArg Prod.snd ev
            rw [e1, e2]
            refine dss_if2 (dt_view (dt_cmp (de_ge (de_ixL (de_var 2 rfl) (de_var 6 rfl) hy) (de_pow de_int de_int ⟨by decide, by decide, by decide⟩)))) (fun _ => ?_) (fun z => by
              have z' : decide ((10 : Int) ^ (18 : Int).toNat ≤ y) = false := z
              rw [decide_eq_false_iff_not] at z'
              exact absurd hb z')
            refine ⟨_, dss_cons (ds_asg (d := .int (y % 1000)) (de_view (de_mod (de_intI B (de_ixL (de_var 2 rfl) (de_var 6 rfl) hy)) de_int (by decide))) (dg_name 5)) (dss_at [scrS T xs, dI 60, O rs, O dw, dI k, dI (y % 1000), dI at', .unk, .unk] (dss_one (ds_setAt 2 rfl (de_view (d := .int (y / 1000)) (de_fdiv (de_ixL (de_var 2 rfl) (de_var 6 rfl) hy) de_int ⟨by decide, by decide⟩)) (de_var 6 rfl) m0 (by rw [List.length_map]; omega)))), dss_pre (r1 := [scrS T xs, dI 60, O (rs.set at'.toNat (y / 1000)), O dw, dI k, dI (y % 1000), .unk, .unk, .unk]) ?_ dss_nil⟩
            show Wk [scrS T xs, dI 60, .own ((rs.map PyData.int).set at'.toNat (.int (y / 1000))), O dw, dI k, dI (y % 1000), dI at', .unk, .unk] [scrS T xs, dI 60, .own ((rs.set at'.toNat (y / 1000)).map PyData.int), O dw, dI k, dI (y % 1000), .unk, .unk, .unk]
            rw [List.map_set]
            exact .keep (.keep (.keep (.keep (.keep (.keep (.drop (.keep (.keep .nil))))))))
          · let mx := (y * 48271 + k * 69621 + 11) % 2147483647
            let mx2 := (mx * 16807 + at') % 2147483629
            have ev : valD rs k = ((mx2 / 7) % 1000, rs) := by
              unfold valD
              rw [if_neg hne, if_neg hb]
            have e1 : v = (mx2 / 7) % 1000 := congrArg Prod.fst ev
            have e2 : rs' = rs := congrArg Prod.snd ev
            rw [e1, e2]
            refine dss_if2 (dt_view (dt_cmp (de_ge (de_ixL (de_var 2 rfl) (de_var 6 rfl) hy) (de_pow de_int de_int ⟨by decide, by decide, by decide⟩)))) (fun z => by
              have z' : decide ((10 : Int) ^ (18 : Int).toNat ≤ y) = true := z
              rw [decide_eq_true_eq] at z'
              exact absurd z' hb) (fun _ => ?_)
            refine ⟨_, dss_cons (ds_asg (d := .int mx) (de_view (de_mod (de_intI B (de_add (de_add (de_mul (de_ixL (de_var 2 rfl) (de_var 6 rfl) hy) de_int (.inr ⟨by decide, by decide⟩)) (de_mul (de_var 4 rfl) de_int (.inr ⟨by decide, by decide⟩))) de_int)) de_int (by decide))) (dg_name 7)) (dss_at [scrS T xs, dI 60, O rs, O dw, dI k, dI 0, dI at', dI mx, .unk] (dss_cons (ds_asg (d := .int mx2) (de_mod (de_intI B (de_add (de_mul (de_var 7 rfl) de_int (.inr ⟨by decide, by decide⟩)) (de_var 6 rfl))) de_int (by decide)) (dg_name 7)) (dss_at [scrS T xs, dI 60, O rs, O dw, dI k, dI 0, dI at', dI mx2, .unk] (dss_one (ds_asg (d := .int ((mx2 / 7) % 1000)) (de_mod (de_intI B (de_fdiv (de_var 7 rfl) de_int ⟨by decide, by decide⟩)) de_int (by decide)) (dg_name 5)))))), dss_pre (r1 := [scrS T xs, dI 60, O rs, O dw, dI k, dI ((mx2 / 7) % 1000), .unk, .unk, .unk]) (.keep (.keep (.keep (.keep (.keep (.keep (.drop (.drop (.keep .nil))))))))) dss_nil⟩
        · have he : rs = [] := by
            have : ¬ ((0 : Int) < ((rs.map PyData.int).length : Int)) := by simpa using h5
            rw [List.length_map] at this
            cases hrs : rs with
            | nil => rfl
            | cons a l => rw [hrs] at this; simp at this
          have ev : valD rs k = (0, rs) := by unfold valD; rw [if_pos he]
          have e1 : v = 0 := congrArg Prod.fst ev
          have e2 : rs' = rs := congrArg Prod.snd ev
          rw [e1, e2]
          exact dss_nil
        · refine dss_to (dss_one (ds_append 3 rfl (de_var 5 rfl) (by rw [List.length_map]; omega))) ?_
          show [scrS T xs, dI 60, O rs', .own (dw.map PyData.int ++ [.int v]), dI k, dI v, .unk, .unk, .unk] = [scrS T xs, dI 60, O rs', .own ((dw ++ [v]).map PyData.int), dI k, dI v, .unk, .unk, .unk]
          rw [List.map_append]
          rfl
      · refine dss_rel 3 rfl (dss_one (ds_ret (de_var 3 rfl) ⟨_, ?_, rfl⟩))
        show (((rng 0 60).take _).foldl stepD (xs, [])).2.length = 60
        rw [stepD_len, rngD_length, List.length_take, rng_len]
        rfl
    obtain ⟨t, pt, et⟩ := body
    refine ⟨t, pt _ rfl, et G H _ G H _ ⟨.refl hG, ⟨rfl, fun i s hs => ?_⟩, fun i z hz => ?_⟩ (fun σ' G' H' h' => (h'.sl.at_ 0 .bot rfl).elim) (fun d' v G' H' e x r => ?_)⟩
    · match i, hs with
      | 0, hs => cases hs; exact ⟨_, rfl, a, rfl, hq⟩
      | 1, hs => cases hs; exact ⟨_, rfl, .int 60⟩
      | i + 2, hs =>
        have := List.mem_of_getElem? hs
        have hs' : [SV.unk, .unk, .unk, .unk, .unk, .unk, .unk][i]? = some s := hs
        have hm := List.mem_of_getElem? hs'
        have : s = .unk := by simpa using hm
        subst this
        trivial
    · have hz' := hz
      unfold OwnAt at hz'
      match i, hz' with
      | 0, hz' => exact absurd hz' (OwnV.no (s := scrS T xs) trivial)
      | 1, hz' => exact absurd hz' (OwnV.no (s := dI 60) trivial)
      | i + 2, hz' =>
        have hs' : ([scrS T xs, dI 60, .unk, .unk, .unk, .unk, .unk, .unk, .unk] : Sls)[i + 2]? = [SV.unk, .unk, .unk, .unk, .unk, .unk, .unk][i]? := rfl
        rw [hs'] at hz'
        cases e : [SV.unk, .unk, .unk, .unk, .unk, .unk, .unk][i]? with
        | none => rw [e] at hz'; exact absurd hz' OwnV.none
        | some s =>
          have : s = .unk := by simpa using List.mem_of_getElem? e
          subst this
          rw [e] at hz'
          exact absurd hz' (OwnV.no (s := .unk) trivial)
    · obtain ⟨ns, hn, rfl⟩ := e
      exact q ns v G' H' hn x r
end
end TW

/-! Walks: the law, given what is good. -/
namespace TW
open PySem PySem.Spec L2 DL
open PyProof.Rows hiding St
def qn (q : Int × List Nat) : Int × List Int := (q.1, natsI q.2)
def pricesL (h : Harbour) (ss : List Ship) (os : List (List Nat)) : List (Int × List Nat) := os.filterMap fun o => (priceOf h ss o).map fun x => (x, o)
def sortedP (rows : List (Int × List Nat)) : List (Int × List Int) := (rows.map qn).mergeSort fun a b => !ltC b a
def bestP (rows : List (Int × List Nat)) : List (List Int) := ((sortedP rows).filter fun p => decide (p.1 = minFst (rows.map qn))).map (·.2)
/-- what the law says of a plan by an order -/
structure PlanGood (h : Harbour) (ss : List Ship) (p : Plan) : Prop where
  len : p.length = ss.length
  mok : ∀ m ∈ p, MOk m
  wr : wrongIn h ss p = none
  rs : RestsOk h ss p
  le : ∃ x, leastOf h ss = some x ∧ 0 ≤ costOf ss p - x ∧ (costOf ss p - x = 0 ↔ parting h ss p = none)
/-- of a ship alone -/
structure AloneGood (h : Harbour) (s : Ship) : Prop where
  no : lawHours h s = [] → planBy h [s] [0] = none ∧ soonest h s = none
  yes : ∀ x xs, lawHours h s = x :: xs → ∃ m m', soonest h s = some m ∧ planBy h [s] [0] = some [m'] ∧ (m.1, m.2.2) = minE ltI x xs ∧ (m'.1, m'.2.2) = minE ltI x xs ∧ costOf [s] [m] = costOf [s] [m']
structure Good (h : Harbour) (ss : List Ship) : Prop where
  pl : ∀ o p, (∀ i ∈ o, i < ss.length) → planBy h ss o = some p → PlanGood h ss p
  len : ∀ o p, planBy h ss o = some p → p.length ≤ 1000
  best : (bestL (orderCosts h ss)).map natsI = bestP (pricesL h ss (lawOrders ss.length))
  alone : ∀ s ∈ ss, AloneGood h s
def GoodAll : Prop := ∀ h ss, HOk h → (∀ b ∈ h.berths, 0 ≤ b) → 1 ≤ h.pilots → SsOk ss → 1 ≤ ss.length → ss.length ≤ 3 → Good h ss
def OrdersGood : Prop := ∀ ss rule, (orderL ss rule).mergeSort (fun a b => decide (a ≤ b)) = natsI (List.range ss.length)
section
variable {T : Tx} {C : CS T} {r r1 : Sls} {R : PyData → Prop} {rest : List Stmt} {x y : Str} {pos p cp pos' yp kp : Pos} {j : Nat}
/-- draws = _law_draws(script, 60) -/
theorem dss_draws {k : Nat} {xs : List Int} (i l : Nat) (F : DrFn T k) (hr : r[l]? = some (scrS T xs)) (hxs : xs.length ≤ 63) (hrest : ∀ ns : List Int, ns.length = 60 → DSs C rest (r.set i (.dat (encIs ns))) R r1) (hk : k ≤ C.k := by first | decide | (dsimp only; decide)) (hg : C.tab.lookup ("_law_draws" : Str) = some .globalImplicit := by rfl) (hN : C.N[i]? = some x := by rfl) (hx : locB C x = true := by rfl)
    (hN2 : C.N[l]? = some y := by rfl) (hv2 : visB C.tab y = true := by rfl) (hd2 : (y == ("__debug__" : Str)) = false := by decide) (hcd2 : (y == ("__classdict__" : Str)) = false := by decide)
    (hst : ∀ env : Env, starEach [.Name y yp, .Constant (.int 60) j kp] env = (false, eval (.Name y yp) env) :: starEach [.Constant (.int 60) j kp] env := by intro _; rfl) (hst2 : ∀ env : Env, starEach [.Constant (.int 60) j kp] env = (false, eval (.Constant (.int 60) j kp) env) :: starEach [] env := by intro _; rfl) (hpl : ∀ env : Env, (backTo cp (starEach [.Constant (.int 60) j kp] env)).any (·.1) = false := by intro _; rfl)
    (hs : ∀ env : Env, swapsWith (.Call (.Name "_law_draws" p) [.Name y yp, .Constant (.int 60) j kp] [] cp) (some (.Name x pos')) pos.line env = pure false := by intro _; rfl) : DSs C (.Assign [.Name x pos'] (.Call (.Name "_law_draws" p) [.Name y yp, .Constant (.int 60) j kp] [] cp) pos :: rest) r R r1 := by
  obtain ⟨f, fd, ps, F, hm, hkp, hb⟩ := F.ex
  let tr : TS := fun D σ H => ∃ t', (∀ X, C.S X → PSs X rest t') ∧ t' D σ H
  refine ⟨tSeq (tAsg (tCall (spDraws T) [] E0 (tCons (tVar l) (tCons (tC (.int 60)) tNil))) (gName i)) tr, fun X hX => ?_, fun G0 H0 σ G H D hB q qr => ?_⟩
  · have c := C.ok X hX
    have hv1 : PE X (.Name y yp) (tVar l) := pe_var (by rw [c.eN]; exact hN2) (vis_of (by rw [c.etab]; exact hv2)) hd2 hcd2
    have hpe := pe_call (x := "_law_draws") (p := p) (pos := cp) (fnAt hX F) (c.room.mono hk) (gl_of c.etab hg) (by rw [c.emg]; exact hm) (by rw [c.eK]; exact hkp) (by rw [c.eK]; exact hb) .nil pass0 (pa_cons hv1 (pa_cons pe_int pa_nil (hst2 X.env)) (hst X.env)) (by decide) (hst X.env) (hpl X.env)
    exact pss_cons (ps_set (by rw [c.eN]; exact c.nd) (by rw [c.eN]; exact hN) (loc_of hX hx).1 hpe (hs X.env) (loc_of hX hx).2) ⟨fun pins s σ H D I ⟨t', p', h'⟩ => (p' X hX).run pins s σ H D I h'⟩
  · obtain ⟨v, e1, a, rfl, hq⟩ := hB.sl.at_ l _ hr
    refine ⟨_, e1, G, a, xs, rfl, hB.ext.gh, hq, hxs, fun ns v G' H' hn x2 rv => ?_⟩
    obtain ⟨t', pt', et'⟩ := hrest ns hn
    exact ⟨t', pt', et' G0 H0 _ G' H' D ((hB.mono x2).set rv) q qr⟩
end
theorem lawOrders_mem {n : Nat} {o : List Nat} (h : o ∈ lawOrders n) : (∀ i ∈ o, i < n) ∧ o.length ≤ 3 := by
  unfold lawOrders at h
  obtain ⟨h1, h2⟩ := List.mem_filter.mp h
  have h2' : o.length = n := by simpa using h2
  subst h2'
  simp only [List.mem_cons, List.not_mem_nil, or_false] at h1
  rcases h1 with rfl | rfl | rfl | rfl | rfl | rfl | rfl | rfl | rfl <;> decide
theorem natsI_encNs (l : List Nat) : PyData.list ((natsI l).map PyData.int) = encNs l := (encNs_eq l).symm
theorem depthAll_mem {ds : List PyData} {d : PyData} (h : d ∈ ds) : d.depth ≤ PyData.depthAll ds := by
  induction ds with
  | nil => simp at h
  | cons e es ih =>
    rw [PyData.depthAll]
    rcases List.mem_cons.mp h with rfl | h
    · omega
    · have := ih h; omega
theorem lay_lists : ∀ ls : List (List Int), PyData.canLayAll0 (ls.map encIs) = true
  | [] => by rw [List.map_nil, PyData.canLayAll0]
  | l :: ls => by
    rw [List.map_cons, PyData.canLayAll0, lay_lists ls, Bool.and_true]
    unfold encIs
    rw [PyData.canLay0, lay_ints]
theorem shaped_lists (ls : List (List Int)) : SeqAt.shaped (.list (ls.map encIs)) = true := by
  unfold SeqAt.shaped
  rw [PyData.canLay0, lay_lists, Bool.true_and, decide_eq_true_eq, PyData.depth]
  have : PyData.depthAll (ls.map encIs) ≤ 2 := depthAll_le fun d hd => by
    obtain ⟨l, _, rfl⟩ := List.mem_map.mp hd
    unfold encIs
    rw [PyData.depth]
    have := depth_ints l
    omega
  omega
theorem eqv_lists (ls : List (List Int)) : PyData.eqv (.list (ls.map encIs)) (.list (ls.map encIs)) = true :=
  PySem.SeqAt.eqv_refl _ (by rw [PyData.canLay0, lay_lists])
def spLaw (K : PySem.W.Frag) : Sp := fun vs H Q _ => ∃ (a : Addr) (ns : List Int), vs = [.ref a] ∧ SqL K H a (ns.map V.int) ∧ ns.length ≤ 63 ∧ ∀ H', Q (.bl true) H'
theorem lay_pairs : ∀ ps : List (Int × Int), PyData.canLayAll0 (ps.map pairI) = true
  | [] => by rw [List.map_nil, PyData.canLayAll0]
  | p :: ps => by
    rw [List.map_cons, PyData.canLayAll0, lay_pairs ps, Bool.and_true]
    unfold pairI
    simp [PyData.canLay0, PyData.canLayAll0]
theorem shaped_pairs (ps : List (Int × Int)) : SeqAt.shaped (.list (ps.map pairI)) = true := by
  unfold SeqAt.shaped
  rw [PyData.canLay0, lay_pairs, Bool.true_and, decide_eq_true_eq, PyData.depth]
  have : PyData.depthAll (ps.map pairI) ≤ 6 := depthAll_le fun d hd => by
    obtain ⟨l, _, rfl⟩ := List.mem_map.mp hd
    exact depth_pair l
  omega
section
variable {T : Tx} (B : Blt T)
include B
/-- the promises that the law asks for -/
structure Fns (T : Tx) : Prop where
  draws : DrFn T 1
  world : DFn T 1 "_law_world" spWorld
  best : DFn T 6 "best_orders" spBest
  orders : DFn T 1 "_law_orders" spLOrders
  planBy : DFn T 5 "plan_by" spPlanBy
  priceOf : DFn T 6 "price_of" spPriceOf
  wrongIn : DFn T 3 "wrong_in" spWrongIn
  parting : DFn T 5 "parting" spParting
  orderOf : DFn T 1 "order_of" spOrderOf
  soon : DFn T 6 "soonest" spSoon
  hours : DFn T 1 "_law_hours" spLHours
  cost : DFn T 2 "cost_of" spCost
theorem law_body (F : Fns T) (GA : GoodAll) (OG : OrdersGood) {xs : List Int} (hxs : xs.length ≤ 63) (Z : Cx → Prop) (ok : ∀ X, Z X → CxIs T nLaw tLaw 7 (fun _ => true) X) :
    DSs (CS.mk Z nLaw tLaw 7 (fun _ => true) ok) (defBody sLaw) [scrS T xs, .unk, .unk, .unk, .unk, .unk, .unk, .unk, .unk, .unk, .unk, .unk, .unk, .unk] (fun z => z = .bool true) [.bot] := by
  refine dss_draws 1 0 F.draws rfl hxs (fun dr hdr => ?_)
  let g : Nat → Int := fun i => dr.getD i 0
  let h0 := worldH g
  let ss := worldS g
  obtain ⟨hk0, hb0⟩ := worldH_ok g
  obtain ⟨sk, s1, s3⟩ := worldS_ok g
  refine dss_cons (ds_asg (de_call F.world (das_cons (de_var 1 rfl) das_nil) ⟨dr, hdr, rfl, rfl⟩) (dg_tup (dgs_cons (dg_name 2) (dgs_cons (dg_name 3) dgs_nil)))) ?_
  have hp0 : 1 ≤ h0.pilots := by
    have := Int.emod_nonneg (g 17) (show (3 : Int) ≠ 0 by decide)
    show 1 ≤ 1 + g 17 % 3
    omega
  obtain ⟨h, hk, hb, hp, eh1, eh2⟩ : ∃ h : Harbour, HOk h ∧ (∀ b ∈ h.berths, 0 ≤ b) ∧ 1 ≤ h.pilots ∧ (2 < ss.length → encH h = .tuple [encIs h0.depths, encIs h0.berths, .int h0.tugs, .int h0.pilots, .int (min h0.last 16)]) ∧ (¬ 2 < ss.length → h = h0) := by
    by_cases e : 2 < ss.length
    · obtain ⟨a, b, c, d, p, q⟩ := hk0
      have p' : 0 ≤ h0.last := p
      have q' : h0.last ≤ 40 := q
      exact ⟨⟨h0.depths, h0.berths, h0.tugs, h0.pilots, min h0.last 16⟩, ⟨a, b, c, d, (by show 0 ≤ min h0.last 16; omega), (by show min h0.last 16 ≤ 40; omega)⟩, hb0, hp0, fun _ => rfl, fun z => absurd e z⟩
    · exact ⟨h0, hk0, hb0, hp0, fun z => absurd z e, fun _ => rfl⟩
  have S : (rest : List Stmt) → (r1 : Sls) → DSs (CS.mk Z nLaw tLaw 7 (fun _ => true) ok) rest [.unk, .unk, .dat (encH h), .dat (encSs ss), .unk, .unk, .unk, .unk, .unk, .unk, .unk, .unk, .unk, .unk] (fun z => z = .bool true) r1 → DSs (CS.mk Z nLaw tLaw 7 (fun _ => true) ok) rest [scrS T xs, .dat (encIs dr), .dat (encH h), .dat (encSs ss), .unk, .unk, .unk, .unk, .unk, .unk, .unk, .unk, .unk, .unk] (fun z => z = .bool true) r1 := fun rest r1 q => dss_pre (.drop (.drop (.keep (.keep (.keep (.keep (.keep (.keep (.keep (.keep (.keep (.keep (.keep (.keep .nil)))))))))))))) q
  refine dss_at [scrS T xs, .dat (encIs dr), .dat (encH h0), .dat (encSs ss), .unk, .unk, .unk, .unk, .unk, .unk, .unk, .unk, .unk, .unk] ?_
  refine dss_cons (ds_if (r1 := [scrS T xs, .dat (encIs dr), .dat (encH h), .dat (encSs ss), .unk, .unk, .unk, .unk, .unk, .unk, .unk, .unk, .unk, .unk]) (dt_cmp (de_gt (de_len B (de_var 3 rfl)) de_int)) (fun e => ?_) (fun e => ?_)) (S _ _ ?_)
  · have e' : 2 < ss.length := by
      have : (2 : Int) < ((ss.map encS).length : Int) := by simpa using e
      rw [List.length_map] at this
      omega
    rw [eh1 e']
    exact dss_to (dss_one (ds_asg (d := .tuple [encIs h0.depths, encIs h0.berths, .int h0.tugs, .int h0.pilots, .int (min h0.last 16)]) (de_to (de_catT (de_sliceT (ol := none) (oh := some 4) (de_var 2 rfl) dp_none (dp_some de_int) (fun z => absurd z.2 (show ¬ (4 : Nat) = 5 by decide))) (de_tup (das_cons (de_min2 B (de_ixT (de_var 2 rfl) de_int (at_nat (by decide) rfl)) de_int) das_nil)) (show [encIs h0.depths, encIs h0.berths, .int h0.tugs, .int h0.pilots] ≠ [] by simp) (by simp) (show (4 : Nat) + 1 ≤ 1000000 by decide)) (by rfl)) (dg_name 2))) rfl
  · have e' : ¬ 2 < ss.length := by
      have : ¬ (2 : Int) < ((ss.map encS).length : Int) := by simpa using e
      rw [List.length_map] at this
      omega
    rw [eh2 e']
    exact dss_nil
  · clear S eh1 eh2
    have gd := GA h ss hk hb hp sk s1 s3
    have gp : ∀ o, o ∈ lawOrders ss.length → (∀ i ∈ o, i < ss.length) ∧ o.length ≤ 3 := fun o ho => lawOrders_mem ho
    let os := lawOrders ss.length
    have osl : os.length ≤ 9 := List.length_filter_le _ _
    let row : List Nat → Option (Int × List Nat) := fun o => (priceOf h ss o).map fun x => (x, o)
    let ec : Int × List Nat → PyData := fun q => costD (qn q)
    let bst : PyData := .list ((bestL (orderCosts h ss)).map encNs)
    refine dss_cons (ds_new 4 (dn_lst das_nil)) ?_
    refine dss_cons (ds_asg (de_call F.best (das_cons (de_var 2 rfl) (das_cons (de_var 3 rfl) das_nil)) ⟨h, ss, hk, sk, s3, gd.len, rfl, rfl⟩) (dg_name 5)) ?_
    refine dss_at [.unk, .unk, .dat (encH h), .dat (encSs ss), .own [], .dat bst, .unk, .unk, .unk, .unk, .unk, .unk, .unk, .unk] ?_
    refine dss_forC (fun i => [.unk, .unk, .dat (encH h), .dat (encSs ss), .own (((os.take i).filterMap row).map ec), .dat bst, .unk, .unk, .unk, .unk, .unk, .unk, .unk, .unk]) (by repeat constructor) (di_list (de_call F.orders (das_cons (de_to (de_len B (de_var 3 rfl)) (by rw [List.length_map])) das_nil) ⟨ss.length, rfl, rfl⟩)) (fun i d hd => ?_) ?_
    · rw [List.getElem?_map] at hd
      obtain ⟨o, ho, rfl⟩ := Option.map_eq_some_iff.mp hd
      obtain ⟨m1, m2⟩ := gp o (List.mem_of_getElem? ho)
      have tx : (os.take (i + 1)).filterMap row = (os.take i).filterMap row ++ (row o).toList := by
        obtain ⟨hi, e⟩ := List.getElem?_eq_some_iff.mp ho
        show ((lawOrders ss.length).take (i + 1)).filterMap row = ((lawOrders ss.length).take i).filterMap row ++ (row o).toList
        rw [List.take_succ_eq_append_getElem hi, List.filterMap_append, e]
        cases hr : row o with
        | none => simp [List.filterMap, hr]
        | some y => simp [List.filterMap, hr]
      have tl : (((os.take i).filterMap row).map ec).length ≤ 9 := by
        rw [List.length_map]
        refine Nat.le_trans (List.length_filterMap_le _ _) ?_
        rw [List.length_take]
        omega
      rw [tx, List.map_append]
      generalize ((os.take i).filterMap row).map ec = acc at tl
      refine ⟨_, _, dg_name 6, [.unk, .unk, .dat (encH h), .dat (encSs ss), .own (acc ++ (row o).toList.map ec), .dat bst, .dat (encNs o), .dat (encPO (planBy h ss o)), .dat (encO (priceOf h ss o)), .unk, .unk, .unk, .unk, .unk], ?_, .keep (.keep (.keep (.keep (.keep (.keep (.drop (.drop (.drop (.keep (.keep (.keep (.keep (.keep .nil)))))))))))))⟩
      refine dss_cons (ds_asg (de_call F.planBy (das_cons (de_var 2 rfl) (das_cons (de_var 3 rfl) (das_cons (de_var 6 rfl) das_nil))) ⟨h, ss, o, hk, sk, s3, m1, by omega, rfl, rfl⟩) (dg_name 7)) ?_
      refine dss_cons (ds_asg (de_call F.priceOf (das_cons (de_var 2 rfl) (das_cons (de_var 3 rfl) (das_cons (de_var 6 rfl) das_nil))) ⟨h, ss, o, hk, sk, s3, m1, by omega, fun p hp => ⟨gd.len o p hp, by obtain ⟨x, hx, _⟩ := (gd.pl o p m1 hp).le; exact ⟨x, hx⟩⟩, rfl, rfl⟩) (dg_name 8)) ?_
      refine dss_at [.unk, .unk, .dat (encH h), .dat (encSs ss), .own acc, .dat bst, .dat (encNs o), .dat (encPO (planBy h ss o)), .dat (encO (priceOf h ss o)), .unk, .unk, .unk, .unk, .unk] ?_
      cases hp : planBy h ss o with
      | none =>
        have e1 : priceOf h ss o = none := by unfold priceOf; rw [hp]
        have e2 : row o = none := by show (priceOf h ss o).map _ = none; rw [e1]; rfl
        rw [e2, e1]
        refine dss_if2 (dt_cmp (de_neB (de_isN (de_var 7 rfl)) (de_isN (de_var 8 rfl)))) (fun z => by cases z) (fun _ => nilB ?_)
        exact dss_if2 (dt_cmp (de_notN (de_var 7 rfl))) (fun z => by cases z) (fun _ => nilB (dss_to dss_nil (by show _ = [SV.unk, .unk, .dat (encH h), .dat (encSs ss), .own (acc ++ []), .dat bst, .dat (encNs o), .dat (encPO none), .dat (encO none), .unk, .unk, .unk, .unk, .unk]; rw [List.append_nil])))
      | some p =>
        obtain ⟨p1, p2, p3, p4, x, p5, p6, p7⟩ := gd.pl o p m1 hp
        have e1 : priceOf h ss o = some (costOf ss p - x) := by unfold priceOf; rw [hp, p5]; rfl
        have e2 : row o = some (costOf ss p - x, o) := by show (priceOf h ss o).map _ = _; rw [e1]; rfl
        rw [e2, e1]
        generalize hy : costOf ss p - x = y at p6 p7
        have p8 : p.length ≤ 3 := by rw [p1]; exact s3
        have p9 : 1 ≤ p.length := by rw [p1]; exact s1
        have hpn : p ≠ [] := fun z => by rw [z] at p9; simp at p9
        refine dss_if2 (dt_cmp (de_neB (de_isN (de_var 7 rfl)) (de_isN (de_var 8 rfl)))) (fun z => by cases z) (fun _ => nilB ?_)
        refine dss_if2 (dt_cmp (de_notN (de_var 7 rfl))) (fun _ => ⟨_, ?_, dss_nil⟩) (fun z => by cases z)
        refine dss_if2 (x := false) (dt_eq (dw_or (dt_cmp (de_notN (de_call F.wrongIn (das_cons (de_var 2 rfl) (das_cons (de_var 3 rfl) (das_cons (de_var 7 rfl) das_nil))) ⟨h, ss, p, hk, Nat.le_of_eq p1, by omega, rfl, rfl⟩))) (fun _ => dw_or1 (dt_cmp (de_lt (de_var 8 rfl) de_int)))).t (by
          rw [p3]
          have : ¬ y < 0 := by omega
          simp [encV, isNoneD, this])) (fun z => by cases z) (fun _ => nilB ?_)
        refine dss_if2 (x := false) (dt_eq (dt_cmp (de_neB (de_eqI (de_var 8 rfl) de_int) (de_isN (de_call F.parting (das_cons (de_var 2 rfl) (das_cons (de_var 3 rfl) (das_cons (de_var 7 rfl) das_nil))) ⟨h, ss, p, hk, sk, s3, hpn, p2, by omega, p4, rfl, rfl⟩)))) (by
          by_cases hz : y = 0
          · rw [p7.mp hz]; simp [hz, encN, isNoneD]
          · cases hq : parting h ss p with
            | none => exact absurd (p7.mpr hq) hz
            | some k => simp [hz, encN, isNoneD])) (fun z => by cases z) (fun _ => nilB ?_)
        refine dss_to (dss_one (ds_append 4 rfl (de_tup (das_cons (de_var 8 rfl) (das_cons (de_var 6 rfl) das_nil))) (by omega))) ?_
        show _ = [SV.unk, .unk, .dat (encH h), .dat (encSs ss), .own (acc ++ [costD (y, natsI o)]), .dat bst, .dat (encNs o), .dat (encPl p), .dat (.int y), .unk, .unk, .unk, .unk, .unk]
        unfold costD
        rw [← encNs_eq]
        rfl
    · have hfin : ((os.take (List.map encNs (lawOrders ss.length)).length).filterMap row).map ec = (pricesL h ss os).map ec := by
        rw [List.length_map, List.take_length]
        rfl
      rw [hfin]
      have hpl : (pricesL h ss os).length ≤ 9 := Nat.le_trans (List.length_filterMap_le _ _) osl
      have hbest : (bestL (orderCosts h ss)).map natsI = bestP (pricesL h ss os) := gd.best
      generalize pricesL h ss os = rows at hpl hbest
      refine dss_rel 4 rfl ?_
      have hbst : bst = .list ((bestP rows).map encIs) := by
        rw [← hbest, List.map_map]
        show PyData.list ((bestL (orderCosts h ss)).map encNs) = _
        congr 1
        exact List.map_congr_left fun o _ => encNs_eq o
      have hrows : PyData.list (rows.map ec) = .list ((rows.map qn).map costD) := by rw [List.map_map]; rfl
      rw [hbst, hrows]
      let qs := rows.map qn
      have hql : qs.length ≤ 9 := by rw [List.length_map]; exact hpl
      refine dss_at [.unk, .unk, .dat (encH h), .dat (encSs ss), .dat (.list (qs.map costD)), .dat (.list ((bestP rows).map encIs)), .unk, .unk, .unk, .unk, .unk, .unk, .unk, .unk] ?_
      have hsort : (qs.map costD).mergeSort (PySem.W.dataLe false id) = (sortedP rows).map costD := sorted_enc lt_cost qs
      refine dss_if2 (x := false) (dt_eq (dt_cmp (de_ne (d' := .list ((bestP rows).map encIs)) (de_var 5 rfl) (de_to (DN.e (dn_lc [("_law_price", 8), ("_law_order", 6)] (ys := ((sortedP rows).filter fun p => decide (p.1 = minFst qs)).map fun p => encIs p.2) (di_list (de_to (de_sortedD B (de_var 4 rfl) (noDicts_cost qs) (alikeAll_enc alike_cost qs) (.inl fun d hd => by
        obtain ⟨z, _, rfl⟩ := List.mem_map.mp hd
        exact ⟨_, _, rfl⟩) (fun d hd => by
        obtain ⟨z, _, rfl⟩ := List.mem_map.mp hd
        exact depth_cost z)) (congrArg PyData.list hsort))) (by
          rw [List.length_map]
          unfold sortedP
          rw [List.length_mergeSort]
          exact Nat.le_trans hql (by decide)) (gives_filter (sortedP rows) 0 fun j z hz => ?_))) (by
        unfold bestP
        rw [List.map_map]
        rfl)) (shaped_lists _) (shaped_lists _))) (by rw [eqv_lists]; rfl)) (fun z => by cases z) (fun _ => nilB ?_)
      · obtain ⟨pr, od⟩ := z
        have hqne : qs ≠ [] := fun e => by
          have := List.mem_of_getElem? hz
          unfold sortedP at this
          rw [List.mem_mergeSort] at this
          have e' : rows.map qn = [] := e
          rw [e'] at this
          simp at this
        cases hq : qs with
        | nil => exact absurd hq hqne
        | cons y ys =>
          have hA : PySem.W.AllAlike (costD y :: ys.map costD) := alikeAll_enc alike_cost (y :: ys)
          have hnd : noDicts (costD y :: ys.map costD) = true := noDicts_cost (y :: ys)
          have hm : ∀ d ∈ costD y :: ys.map costD, d ≠ .none ∧ d.depth ≤ 6 := fun d hd => by
            obtain ⟨z, _, rfl⟩ := List.mem_map.mp (show d ∈ (y :: ys).map costD from hd)
            exact ⟨(fun e => nomatch e : costD z ≠ .none), depth_cost z⟩
          exact lct_if (dg_tup (dgs_cons (dg_name 8) (dgs_cons (dg_name 6) dgs_nil))) (dts_one (dt_cmp (de_eqI (j := minFst (y :: ys)) (de_var 8 rfl) (de_ixT (ds := [.int (minE ltC y ys).1, .list ((minE ltC y ys).2.map PyData.int)]) (de_to (de_minD B (d := costD y) (ds := ys.map costD) (de_to (de_var 4 rfl) (by rfl)) hnd ⟨hA, fun d hd => (hm d hd).1⟩ (depthAll_le fun d hd => (hm d hd).2)) (minD_enc lt_cost _ _)) de_int (at_nat (by decide) rfl))))) (fun _ => de_var 6 rfl) (by rfl)
      refine dss_pre (r1 := [.unk, .unk, .dat (encH h), .dat (encSs ss), .unk, .unk, .unk, .unk, .unk, .unk, .unk, .unk, .unk, .unk]) (.keep (.keep (.keep (.keep (.drop (.drop (.keep (.keep (.keep (.keep (.keep (.keep (.keep (.keep .nil)))))))))))))) ?_
      refine dss_forC (its := rules.map fun w => PyData.str (Str.ofString w)) (fun i => [.unk, .unk, .dat (encH h), .dat (encSs ss), .unk, .unk, .unk, .unk, .unk, .unk, .unk, .unk, .unk, .unk]) (by repeat constructor) (di_list (DN.e (dn_lst (das_cons de_str (das_cons de_str (das_cons de_str (das_cons de_str das_nil)))) (by show (4 : Nat) ≤ 1000000; decide)))) (fun i d hd => ?_) ?_
      · rw [List.getElem?_map] at hd
        obtain ⟨w, hw, rfl⟩ := Option.map_eq_some_iff.mp hd
        have hwr : w ∈ rules := List.mem_of_getElem? hw
        refine ⟨_, _, dg_name 9, [.unk, .unk, .dat (encH h), .dat (encSs ss), .unk, .unk, .unk, .unk, .unk, .dat (.str (Str.ofString w)), .unk, .unk, .unk, .unk], ?_, .keep (.keep (.keep (.keep (.keep (.keep (.keep (.keep (.keep (.drop (.keep (.keep (.keep (.keep .nil)))))))))))))⟩
        have hso : ((orderL ss w).map PyData.int).mergeSort (PySem.W.dataLe false id) = (natsI (List.range ss.length)).map PyData.int := by
          rw [sorted_enc (lt := fun a b => decide (a < b)) PySem.W.dataLt_int, ← OG ss w]
          congr 2
          funext a b
          by_cases e : a ≤ b
          · have : ¬ b < a := by omega
            simp [e, this]
          · have : b < a := by omega
            simp [e, this]
        refine dss_if2 (x := false) (dt_eq (dt_cmp (de_ne (d := encIs (natsI (List.range ss.length))) (d' := encIs (natsI (List.range ss.length))) (de_to (de_sortedD B (de_call F.orderOf (das_cons (de_var 3 rfl) (das_cons (de_var 9 rfl) das_nil)) ⟨ss, w, hwr, Nat.le_trans s3 (by decide), rfl, rfl⟩) (noDicts_ints _) (alikeAll_enc (enc := PyData.int) (fun x y => by rw [PySem.W.alike]) _) (.inr fun d hd => by
          obtain ⟨z, _, rfl⟩ := List.mem_map.mp hd
          exact ⟨fun e => (nomatch e), fun xs e => (nomatch e)⟩) (fun d hd => by
          obtain ⟨z, _, rfl⟩ := List.mem_map.mp hd
          rw [PyData.depth]; decide)) (congrArg PyData.list hso)) (de_to (DN.e (dn_listRange B (de_len B (de_var 3 rfl)) (by omega) (by rw [List.length_map]; have s3' : ss.length ≤ 3 := s3; omega))) (by
            rw [List.length_map, Int.toNat_natCast]
            unfold encIs natsI
            rw [List.map_map]
            rfl)) (shaped_ints _) (shaped_ints _))) (by
            have := PySem.SeqAt.eqv_refl (encIs (natsI (List.range ss.length))) (by unfold encIs; rw [PyData.canLay0, lay_ints])
            rw [this]; rfl)) (fun z => by cases z) (fun _ => nilB dss_nil)
      · refine dss_forC (fun i => [.unk, .unk, .dat (encH h), .dat (encSs ss), .unk, .unk, .unk, .unk, .unk, .unk, .unk, .unk, .unk, .unk]) (by repeat constructor) (di_list (de_var 3 rfl)) (fun i d hd => ?_) ?_
        · rw [List.getElem?_map] at hd
          obtain ⟨s, hs, rfl⟩ := Option.map_eq_some_iff.mp hd
          have hsm : s ∈ ss := List.mem_of_getElem? hs
          have hsk : SOk s := sk s hsm
          have sk1 : SsOk [s] := fun z hz => by simp at hz; subst hz; exact hsk
          obtain ⟨g1, g2⟩ := gd.alone s hsm
          refine ⟨_, _, dg_name 10, [.unk, .unk, .dat (encH h), .dat (encSs ss), .unk, .unk, .unk, .unk, .unk, .unk, .dat (encS s), .dat (encPO (planBy h [s] [0])), .dat (encMo (soonest h s)), .dat (.list ((lawHours h s).map pairI))], ?_, .keep (.keep (.keep (.keep (.keep (.keep (.keep (.keep (.keep (.keep (.drop (.drop (.drop (.drop .nil)))))))))))))⟩
          refine dss_cons (ds_par3 11 12 13 (das_cons (de_call F.planBy (das_cons (de_var 2 rfl) (das_cons (DN.e (dn_lst (das_cons (de_var 10 rfl) das_nil))) (das_cons (DN.e (dn_lst (das_cons de_int das_nil))) das_nil))) ⟨h, [s], [0], hk, sk1, by simp, by simp, by simp, rfl, rfl⟩) (das_cons (de_call F.soon (das_cons (de_var 2 rfl) (das_cons (de_var 10 rfl) das_nil)) ⟨h, s, hk, hsk, rfl, rfl⟩) (das_cons (de_call F.hours (das_cons (de_var 2 rfl) (das_cons (de_var 10 rfl) das_nil)) ⟨h, s, hk, hsk, hb, rfl, rfl⟩) das_nil))) rfl rfl rfl (by decide) (by decide) (by decide) rfl rfl rfl (fun env h1 h2 h3 h4 => by
            unfold swappedStores
            dsimp only
            rw [h1]
            simp only [List.filterMap_cons, List.filterMap_nil, h2, h3, h4]
            rfl)) ?_
          refine dss_at [.unk, .unk, .dat (encH h), .dat (encSs ss), .unk, .unk, .unk, .unk, .unk, .unk, .dat (encS s), .dat (encPO (planBy h [s] [0])), .dat (encMo (soonest h s)), .dat (.list ((lawHours h s).map pairI))] ?_
          have eqn : ∀ ps : List (Int × Int), PyData.eqv (.list (ps.map pairI)) (.list []) = ps.isEmpty := fun ps => by
            cases ps with
            | nil => simp [PyData.eqv, PyData.eqvAll]
            | cons p ps => simp [PyData.eqv, PyData.eqvAll]
          cases hlh : lawHours h s with
          | nil =>
            obtain ⟨n1, n2⟩ := g1 hlh
            rw [n1, n2]
            refine dss_if2 (x := true) (dt_eq (dt_cmp (de_eq (d := .list (([] : List (Int × Int)).map pairI)) (de_var 13 rfl) (DN.e (dn_lst das_nil)) (shaped_pairs []) rfl)) (eqn [])) (fun _ => ⟨_, ?_, dss_nil⟩) (fun z => by cases z)
            exact dss_if2 (x := false) (dt_eq (dw_or (dt_cmp (de_notN (de_var 11 rfl))) (fun _ => dw_or1 (dt_cmp (de_notN (de_var 12 rfl))))).t rfl) (fun z => by cases z) (fun _ => nilB dss_nil)
          | cons p ps =>
            obtain ⟨m, m', n1, n2, n3, n4, n5⟩ := g2 p ps hlh
            rw [n1, n2]
            have hmin : ∀ (r : Sls) (pp p1 : Pos) (x : Expr), DE (CS.mk Z nLaw tLaw 7 (fun _ => true) ok) x r (.list (pairI p :: ps.map pairI)) → (∀ env : Env, starEach [x] env = (false, eval x env) :: starEach [] env) → DE (CS.mk Z nLaw tLaw 7 (fun _ => true) ok) (.Call (.Name "min" pp) [x] [] p1) r (pairI (minE ltI p ps)) := fun r pp p1 x hx hst => de_to (de_minD B hx (noDicts_pair (p :: ps)) ⟨alikeAll_enc alike_pair (p :: ps), fun d hd => by
              obtain ⟨z, _, rfl⟩ := List.mem_map.mp (show d ∈ (p :: ps).map pairI from hd)
              exact (fun e => nomatch e : pairI z ≠ .none)⟩ (depthAll_le fun d hd => by
              obtain ⟨z, _, rfl⟩ := List.mem_map.mp (show d ∈ (p :: ps).map pairI from hd)
              exact depth_pair z) rfl hst) (minD_enc lt_pair p ps)
            have eqp : ∀ q : Int × Int, PyData.eqv (pairI q) (pairI q) = true := fun q => PySem.SeqAt.eqv_refl _ (by unfold pairI; simp [PyData.canLay0, PyData.canLayAll0])
            refine dss_if2 (x := false) (dt_eq (dt_cmp (de_eq (d := .list ((p :: ps).map pairI)) (de_var 13 rfl) (DN.e (dn_lst das_nil)) (shaped_pairs (p :: ps)) rfl)) (eqn (p :: ps))) (fun z => by cases z) (fun _ => ⟨_, ?_, dss_nil⟩)
            refine dss_if2 (x := false) (dt_eq (dw_or (dt_cmp (de_isN (de_var 11 rfl))) (fun _ => dw_or (dt_cmp (de_isN (de_var 12 rfl))) (fun _ => dw_or1 (dt_cmp (de_ne (d := pairI (m.1, m.2.2)) (d' := pairI (minE ltI p ps)) (de_tup (das_cons (de_ixT (de_var 12 rfl) de_int (at_nat (by decide) rfl)) (das_cons (de_ixT (de_var 12 rfl) de_int (at_nat (by decide) rfl)) das_nil))) (hmin _ _ _ _ (de_var 13 rfl) (by intro _; rfl)) rfl rfl))))).t (by rw [n3, eqp]; rfl)) (fun z => by cases z) (fun _ => nilB ?_)
            refine dss_if2 (x := false) (dt_eq (dt_cmp (de_ne (d := pairI (m'.1, m'.2.2)) (d' := pairI (minE ltI p ps)) (de_tup (das_cons (de_ixT (de_ixL (de_var 11 rfl) de_int (at_nat (by decide) rfl)) de_int (at_nat (by decide) rfl)) (das_cons (de_ixT (de_ixL (de_var 11 rfl) de_int (at_nat (by decide) rfl)) de_int (at_nat (by decide) rfl)) das_nil))) (hmin _ _ _ _ (de_var 13 rfl) (by intro _; rfl)) rfl rfl)) (by rw [n4, eqp]; rfl)) (fun z => by cases z) (fun _ => nilB ?_)
            refine dss_if2 (x := false) (dt_eq (dt_cmp (de_neI (de_call F.cost (das_cons (DN.e (dn_lst (das_cons (de_var 10 rfl) das_nil))) (das_cons (DN.e (dn_lst (das_cons (de_var 12 rfl) das_nil))) das_nil)) ⟨[s], [m], sk1, by simp, rfl, rfl⟩) (de_call F.cost (das_cons (DN.e (dn_lst (das_cons (de_var 10 rfl) das_nil))) (das_cons (de_var 11 rfl) das_nil)) ⟨[s], [m'], sk1, by simp, rfl, rfl⟩))) (by rw [n5]; simp)) (fun z => by cases z) (fun _ => nilB dss_nil)
        · exact dss_one (ds_ret de_bl rfl)
/-- the law's promise -/
theorem F_law (F : Fns T) (GA : GoodAll) (OG : OrdersGood) (D : DefAt T "law" sLaw pLaw) : ∀ f fd, Fun T.K "law" "law" sLaw f fd → FnOk T.P T.w T.K T.mg T.base CX0 8 f fd pLaw (spLaw T.K) := by
  intro f fd Fu
  refine Fu.ok scLaw (fun vs H Q E h => ?_) (fun cdv A outer s H vs Q E hr h => ?_)
  · obtain ⟨a, ns, rfl, _⟩ := h
    rfl
  · obtain ⟨a, xs, rfl, hq, hl, q⟩ := h
    let Z : Cx → Prop := fun Y => Y = (cxOf CX0 T.P T.w T.K T.mg T.base nLaw "law" (defScope sLaw) f cdv A outer s H E).nox
    have ok : ∀ X, Z X → CxIs T nLaw tLaw 7 (fun _ => true) X := fun X e => by
      subst e
      exact ⟨rfl, rfl, rfl, rfl, rfl, scLaw.nd, rfl, stLaw, scLaw.kind, rfl, hr, fun _ _ => rfl, rfl⟩
    obtain ⟨t, pt, et⟩ := law_body B F GA OG hl Z ok
    refine ⟨t, pt _ rfl, et H H _ H H _ ⟨.refl (Same.refl _), ⟨rfl, fun i s hs => ?_⟩, fun i z hz => ?_⟩ (fun σ' G' H' h' => (h'.sl.at_ 0 .bot rfl).elim) (fun d' v G' H' e x r => ?_)⟩
    · cases i with
      | zero => cases hs; exact ⟨_, rfl, a, rfl, hq⟩
      | succ i =>
        have hs' : (List.replicate 13 SV.unk)[i]? = some s := hs
        have := List.mem_of_getElem? hs'
        rw [List.mem_replicate] at this
        obtain ⟨_, rfl⟩ := this
        trivial
    · unfold OwnAt at hz
      cases i with
      | zero => exact absurd hz (OwnV.no (s := scrS T xs) trivial)
      | succ i =>
        have hs' : ([scrS T xs, .unk, .unk, .unk, .unk, .unk, .unk, .unk, .unk, .unk, .unk, .unk, .unk, .unk] : Sls)[i + 1]? = (List.replicate 13 SV.unk)[i]? := rfl
        rw [hs'] at hz
        cases e : (List.replicate 13 SV.unk)[i]? with
        | none => rw [e] at hz; exact absurd hz OwnV.none
        | some s =>
          have := List.mem_of_getElem? e
          rw [List.mem_replicate] at this
          obtain ⟨_, rfl⟩ := this
          rw [e] at hz
          exact absurd hz (OwnV.no (s := .unk) trivial)
    · subst e
      cases r
      exact q H'
end
end TW

/-! Plain: orders, the best orders. -/
namespace TW
open DL
theorem perm_sorted {α : Type} {le : α → α → Prop} (anti : ∀ a b, le a b → le b a → a = b) : ∀ {l m : List α}, l.Perm m → l.Pairwise le → m.Pairwise le → l = m
  | [], m, p, _, _ => (List.Perm.nil_eq p)
  | a :: l, [], p, _, _ => absurd p.length_eq (by simp)
  | a :: l, b :: m, p, h1, h2 => by
    have e : a = b := by
      have ha : a ∈ b :: m := p.mem_iff.mp List.mem_cons_self
      have hb : b ∈ a :: l := p.mem_iff.mpr List.mem_cons_self
      rcases List.mem_cons.mp ha with e | ha
      · exact e
      · rcases List.mem_cons.mp hb with e | hb
        · exact e.symm
        · exact anti a b ((List.pairwise_cons.mp h1).1 b hb) ((List.pairwise_cons.mp h2).1 a ha)
    subst e
    rw [perm_sorted anti ((List.perm_cons a).mp p) (List.pairwise_cons.mp h1).2 (List.pairwise_cons.mp h2).2]
theorem sort_int (l : List Int) : (l.mergeSort fun a b => decide (a ≤ b)).Pairwise (· ≤ ·) ∧ (l.mergeSort fun a b => decide (a ≤ b)).Perm l := by
  refine ⟨?_, List.mergeSort_perm _ _⟩
  have := List.pairwise_mergeSort (le := fun a b : Int => decide (a ≤ b)) (fun a b c h1 h2 => by
    simp at h1 h2 ⊢
    omega) (fun a b => by
    simp
    omega) l
  exact this.imp fun h => by simpa using h
theorem range_sorted (n : Nat) : (natsI (List.range n)).Pairwise (· ≤ ·) := by
  unfold natsI
  rw [List.pairwise_map]
  exact List.pairwise_lt_range.imp fun h => by omega
theorem orders_good : OrdersGood := by
  intro ss rule
  refine perm_sorted (fun a b h1 h2 => Int.le_antisymm h1 h2) ?_ (sort_int _).1 (range_sorted _)
  refine (sort_int _).2.trans ?_
  unfold orderL
  refine ((List.mergeSort_perm _ _).map _).trans ?_
  unfold orderRows natsI
  rw [List.map_map]
  have : ss.zipIdx.map (((·.2) : Int × Int → Int) ∘ fun p : Ship × Nat => (ruleKey rule p.1, (p.2 : Int))) = (ss.zipIdx.map (·.2)).map fun i : Nat => (i : Int) := by rw [List.map_map]; rfl
  rw [this]
  have h2 : ss.zipIdx.map (·.2) = List.range ss.length := by
    rw [List.zipIdx_eq_zip_range', List.map_snd_zip (by simp), List.range_eq_range']
  rw [h2]
/-! ### the order of costs and lists -/
theorem lexI_trans : ∀ {a b c : List Int}, lexI a b = true → lexI b c = true → lexI a c = true
  | [], [], _, h, _ => by simp [lexI] at h
  | [], _ :: _, [], _, h => by simp [lexI] at h
  | [], _ :: _, _ :: _, _, _ => rfl
  | _ :: _, [], _, h, _ => by simp [lexI] at h
  | _ :: _, _ :: _, [], _, h => by simp [lexI] at h
  | x :: a, y :: b, z :: c, h1, h2 => by
    unfold lexI at h1 h2 ⊢
    by_cases e1 : x = y
    · subst e1
      rw [if_pos rfl] at h1
      by_cases e2 : x = z
      · rw [if_pos e2] at h2 ⊢
        exact lexI_trans h1 h2
      · rw [if_neg e2] at h2 ⊢
        exact h2
    · rw [if_neg e1] at h1
      have h1' : x < y := by simpa using h1
      by_cases e2 : y = z
      · subst e2
        rw [if_neg e1]
        simpa using h1'
      · rw [if_neg e2] at h2
        have h2' : y < z := by simpa using h2
        rw [if_neg (by omega)]
        simp
        omega
theorem lexI_total : ∀ {a b : List Int}, a ≠ b → lexI a b = true ∨ lexI b a = true
  | [], [], h => absurd rfl h
  | [], _ :: _, _ => .inl rfl
  | _ :: _, [], _ => .inr rfl
  | x :: a, y :: b, h => by
    unfold lexI
    by_cases e : x = y
    · subst e
      rw [if_pos rfl, if_pos rfl]
      exact lexI_total fun z => h (by rw [z])
    · rw [if_neg e, if_neg (Ne.symm e)]
      simp
      omega
theorem lexI_asym {a b : List Int} (h : lexI a b = true) : lexI b a = false := by
  cases e : lexI b a with
  | false => rfl
  | true =>
    have := lexI_trans h e
    rw [lexI_irr] at this
    cases this
theorem ltC_trans {a b c : Int × List Int} (h1 : ltC a b = true) (h2 : ltC b c = true) : ltC a c = true := by
  unfold ltC at *
  simp only [Bool.or_eq_true, Bool.and_eq_true, decide_eq_true_eq] at *
  rcases h1 with h1 | ⟨h1, h1'⟩ <;> rcases h2 with h2 | ⟨h2, h2'⟩
  · left; omega
  · left; omega
  · left; omega
  · exact .inr ⟨by omega, lexI_trans h1' h2'⟩
theorem ltC_total {a b : Int × List Int} (h : a ≠ b) : ltC a b = true ∨ ltC b a = true := by
  unfold ltC
  simp only [Bool.or_eq_true, Bool.and_eq_true, decide_eq_true_eq]
  by_cases e : a.1 = b.1
  · rcases lexI_total (a := a.2) (b := b.2) (fun z => h (Prod.ext e z)) with q | q
    · exact .inl (.inr ⟨e, q⟩)
    · exact .inr (.inr ⟨e.symm, q⟩)
  · by_cases h1 : a.1 < b.1
    · exact .inl (.inl h1)
    · exact .inr (.inl (by omega))
theorem ltC_irr (a : Int × List Int) : ltC a a = false := by
  unfold ltC
  simp [lexI_irr]
theorem ltC_asym {a b : Int × List Int} (h : ltC a b = true) : ltC b a = false := by
  cases e : ltC b a with
  | false => rfl
  | true =>
    have := ltC_trans h e
    rw [ltC_irr] at this
    cases this
def leC (a b : Int × List Int) : Prop := ltC b a = false
theorem leC_anti (a b : Int × List Int) (h1 : leC a b) (h2 : leC b a) : a = b := by
  by_cases e : a = b
  · exact e
  · rcases ltC_total e with h | h
    · unfold leC at h2; rw [h] at h2; cases h2
    · unfold leC at h1; rw [h] at h1; cases h1
theorem sortC (l : List (Int × List Int)) : (l.mergeSort fun a b => !ltC b a).Pairwise leC ∧ (l.mergeSort fun a b => !ltC b a).Perm l := by
  refine ⟨?_, List.mergeSort_perm _ _⟩
  have := List.pairwise_mergeSort (le := fun a b : Int × List Int => !ltC b a) (fun a b c h1 h2 => by
    simp at h1 h2 ⊢
    cases e : ltC c a with
    | false => rfl
    | true =>
      exfalso
      by_cases e1 : a = b
      · subst e1; rw [e] at h2; cases h2
      · rcases ltC_total e1 with q | q
        · have := ltC_trans e q
          rw [this] at h2; cases h2
        · rw [q] at h1; cases h1) (fun a b => by
    cases e : ltC b a with
    | false => simp
    | true => rw [ltC_asym e]; simp) l
  exact this.imp fun h => by unfold leC; simpa using h
/-- a list in order, its least kept: as it stood -/
theorem best_sorted {l : List (Int × List Int)} (m : Int) (hs : (l.map (·.2)).Pairwise fun a b => lexI a b = true) : (l.mergeSort fun a b => !ltC b a).filter (fun p => decide (p.1 = m)) = l.filter fun p => decide (p.1 = m) := by
  obtain ⟨h1, h2⟩ := sortC l
  refine perm_sorted leC_anti (h2.filter _) (h1.filter _) ?_
  rw [List.pairwise_map] at hs
  have : (l.filter fun p => decide (p.1 = m)).Pairwise fun a b => lexI a.2 b.2 = true := hs.filter _
  refine List.Pairwise.imp_of_mem (fun {a b} ha hb hab => ?_) this
  have ea : a.1 = m := by simpa using (List.mem_filter.mp ha).2
  have eb : b.1 = m := by simpa using (List.mem_filter.mp hb).2
  unfold leC ltC
  rw [lexI_asym hab]
  have : ¬ b.1 < a.1 := by omega
  simp [this]
end TW

/-! Plain: the best orders. -/
namespace TW
open DL
theorem orders_eq {n : Nat} (h1 : 1 ≤ n) (h3 : n ≤ 3) : ordersF 4 (List.range n) = lawOrders n := by
  have : n = 1 ∨ n = 2 ∨ n = 3 := by omega
  rcases this with rfl | rfl | rfl <;> decide
theorem orders_lex {n : Nat} (h1 : 1 ≤ n) (h3 : n ≤ 3) : ((lawOrders n).map natsI).Pairwise fun a b => lexI a b = true := by
  have : n = 1 ∨ n = 2 ∨ n = 3 := by omega
  rcases this with rfl | rfl | rfl <;> decide
def shC (L : Int) (q : Int × List Int) : Int × List Int := (q.1 - L, q.2)
theorem ltC_sh (L : Int) (a b : Int × List Int) : ltC (shC L a) (shC L b) = ltC a b := by
  unfold ltC shC
  have e1 : (a.1 - L < b.1 - L) ↔ a.1 < b.1 := by omega
  have e2 : (a.1 - L = b.1 - L) ↔ a.1 = b.1 := by omega
  simp only [e1, e2]
theorem minE_sh (L : Int) : ∀ (xs : List (Int × List Int)) (x : Int × List Int), minE ltC (shC L x) (xs.map (shC L)) = shC L (minE ltC x xs)
  | [], x => rfl
  | y :: ys, x => by
    unfold minE
    rw [List.map_cons, List.foldl_cons, List.foldl_cons, ltC_sh]
    have ih := minE_sh L ys
    unfold minE at ih
    by_cases h : ltC y x = true
    · rw [if_pos h, if_pos h]; exact ih y
    · rw [if_neg h, if_neg h]; exact ih x
theorem best_good {h : Harbour} {ss : List Ship} (h1 : 1 ≤ ss.length) (h3 : ss.length ≤ 3) : (bestL (orderCosts h ss)).map natsI = bestP (pricesL h ss (lawOrders ss.length)) := by
  let L := (leastOf h ss).getD 0
  let os := lawOrders ss.length
  have eo : orderCosts h ss = os.filterMap fun o => (planBy h ss o).map fun p => (costOf ss p, o) := by
    unfold orderCosts
    rw [orders_eq h1 h3]
  let A := (orderCosts h ss).map qn
  have eB : (pricesL h ss os).map qn = A.map (shC L) := by
    show _ = ((orderCosts h ss).map qn).map (shC L)
    rw [eo]
    unfold pricesL
    rw [List.map_filterMap, List.map_filterMap, List.map_filterMap]
    congr 1
    funext o
    unfold priceOf
    cases planBy h ss o <;> rfl
  have hA2 : (A.map (·.2)).Pairwise fun a b => lexI a b = true := by
    have : (A.map (·.2)).Sublist (os.map natsI) := by
      show (((orderCosts h ss).map qn).map (·.2)).Sublist _
      rw [eo, List.map_filterMap, List.map_filterMap, ← List.filterMap_eq_map (f := natsI)]
      have gen : ∀ l : List (List Nat), (l.filterMap fun o => Option.map (fun x => x.2) (Option.map qn (Option.map (fun p => (costOf ss p, o)) (planBy h ss o)))).Sublist (l.filterMap (some ∘ natsI)) := by
        intro l
        induction l with
        | nil => exact List.Sublist.refl _
        | cons o l ih =>
          rw [List.filterMap_cons_some (f := some ∘ natsI) (b := natsI o) rfl]
          cases hp : planBy h ss o with
          | none =>
            rw [List.filterMap_cons_none (by rw [hp]; rfl)]
            exact ih.cons _
          | some p =>
            rw [List.filterMap_cons_some (b := natsI o) (by rw [hp]; rfl)]
            exact ih.cons₂ _
      exact gen os
    exact (orders_lex h1 h3).sublist this
  show _ = bestP (pricesL h ss os)
  unfold bestP sortedP
  rw [eB]
  have hm : minFst (A.map (shC L)) = (if A = [] then 0 else minFst A - L) := by
    cases hA : A with
    | nil => rfl
    | cons x xs =>
      rw [if_neg (by simp), List.map_cons]
      show (minE ltC (shC L x) (xs.map (shC L))).1 = (minE ltC x xs).1 - L
      rw [minE_sh]
      rfl
  rw [best_sorted _ (by
    rw [List.map_map]
    exact hA2)]
  rw [List.filter_map, List.map_map]
  have hf : A.filter ((fun p => decide (p.1 = minFst (A.map (shC L)))) ∘ shC L) = A.filter fun p => decide (p.1 = minFst A) := by
    refine List.filter_congr fun p hp => ?_
    have hne : A ≠ [] := fun e => by rw [e] at hp; simp at hp
    rw [if_neg hne] at hm
    show decide (p.1 - L = minFst (A.map (shC L))) = _
    rw [hm]
    have : (p.1 - L = minFst A - L) ↔ p.1 = minFst A := by omega
    simp only [this]
  rw [hf]
  show (bestL (orderCosts h ss)).map natsI = (((orderCosts h ss).map qn).filter fun p => decide (p.1 = minFst ((orderCosts h ss).map qn))).map ((·.2) ∘ shC L)
  rw [List.filter_map, List.map_map]
  unfold bestL
  rw [List.map_map]
  rfl
end TW

/-! Plain: ways through the hours, the least costs. -/
namespace TW
open DL
inductive Path (h : Harbour) (ss : List Ship) : List Int → State → State → Int → Prop
  | nil (s : State) : Path h ss [] s s 0
  | cons {t : Int} {ts : List Int} {s s' s'' : State} {c c' : Int} : (s', c) ∈ goings h ss s t → Path h ss ts s' s'' c' → Path h ss (t :: ts) s s'' (c + c')
section
variable {h : Harbour} {ss : List Ship}
theorem Path.app : ∀ {ts us : List Int} {s s' s'' : State} {c c' : Int}, Path h ss ts s s' c → Path h ss us s' s'' c' → Path h ss (ts ++ us) s s'' (c + c')
  | [], us, s, s', s'', c, c', p, q => by
    cases p
    rw [Int.zero_add]
    exact q
  | t :: ts, us, s, s', s'', c, c', p, q => by
    cases p with
    | cons g p =>
      rw [Int.add_assoc]
      exact Path.cons g (Path.app p q)
theorem Path.split : ∀ {ts us : List Int} {s s'' : State} {c : Int}, Path h ss (ts ++ us) s s'' c → ∃ s' c1 c2, Path h ss ts s s' c1 ∧ Path h ss us s' s'' c2 ∧ c = c1 + c2
  | [], us, s, s'', c, p => by
    rw [List.nil_append] at p
    exact ⟨s, 0, c, Path.nil s, p, by omega⟩
  | t :: ts, us, s, s'', c, p => by
    rw [List.cons_append] at p
    cases p with
    | cons g p =>
      obtain ⟨s', c1, c2, p1, p2, rfl⟩ := Path.split p
      exact ⟨s', _, c2, Path.cons g p1, p2, by omega⟩
theorem Path.one {t : Int} {s s' : State} {c : Int} (g : (s', c) ∈ goings h ss s t) : Path h ss [t] s s' c := by
  have := Path.cons g (Path.nil s')
  rwa [Int.add_zero] at this
theorem Path.one_inv {t : Int} {s s' : State} {c : Int} (p : Path h ss [t] s s' c) : (s', c) ∈ goings h ss s t := by
  cases p with
  | cons g q =>
    cases q
    rw [Int.add_zero]
    exact g
end
/-- the least that holds, if any holds -/
def IsMin (P : Int → Prop) (o : Option Int) : Prop := (∀ x, o = some x → P x ∧ ∀ c, P c → x ≤ c) ∧ (o = none → ∀ c, ¬ P c)
theorem IsMin.congr {P Q : Int → Prop} {o : Option Int} (h : IsMin P o) (e : ∀ c, P c ↔ Q c) : IsMin Q o := by
  have : P = Q := funext fun c => propext (e c)
  rwa [← this]
theorem IsMin.some {P : Int → Prop} {o : Option Int} (h : IsMin P o) {c : Int} (hc : P c) : ∃ x, o = .some x ∧ P x ∧ x ≤ c := by
  cases o with
  | none => exact absurd hc (h.2 rfl c)
  | some x => exact ⟨x, rfl, (h.1 x rfl).1, (h.1 x rfl).2 c hc⟩
theorem IsMin.eq {P : Int → Prop} {o o' : Option Int} (h : IsMin P o) (h' : IsMin P o') : o = o' := by
  cases o with
  | none =>
    cases o' with
    | none => rfl
    | some y => exact absurd (h'.1 y rfl).1 (h.2 rfl y)
  | some x =>
    cases o' with
    | none => exact absurd (h.1 x rfl).1 (h'.2 rfl x)
    | some y =>
      have a := (h.1 x rfl).2 y (h'.1 y rfl).1
      have b := (h'.1 y rfl).2 x (h.1 x rfl).1
      rw [Int.le_antisymm a b]
theorem relax1_get (m : List (State × Int)) (b : State) (c : Int) (s : State) : getA (relax1 m b c) s = if s = b then (match getA m b with | none => some c | some x => some (min x c)) else getA m s := by
  unfold relax1
  cases e : getA m b with
  | none =>
    exact getA_put ..
  | some x =>
    show getA (if c < x then putA m b c else m) s = if s = b then some (min x c) else getA m s
    by_cases h : c < x
    · rw [if_pos h, getA_put]
      have : min x c = c := by omega
      rw [this]
    · rw [if_neg h]
      have : min x c = x := by omega
      rw [this]
      by_cases hs : s = b
      · rw [if_pos hs, hs, e]
      · rw [if_neg hs]
theorem relax_fold : ∀ (L : List (State × Int)) (m : List (State × Int)) (s : State), IsMin (fun c => getA m s = some c ∨ (s, c) ∈ L) (getA (L.foldl (fun m q => relax1 m q.1 q.2) m) s)
  | [], m, s => by
    refine ⟨fun x hx => ⟨.inl hx, fun c hc => ?_⟩, fun hn c hc => ?_⟩
    · rcases hc with hc | hc
      · rw [List.foldl_nil] at hx
        rw [hx] at hc
        cases hc
        omega
      · simp at hc
    · rcases hc with hc | hc
      · rw [List.foldl_nil] at hn
        rw [hn] at hc
        cases hc
      · simp at hc
  | (b, c0) :: L, m, s => by
    rw [List.foldl_cons]
    have ih := relax_fold L (relax1 m b c0) s
    have e := relax1_get m b c0 s
    by_cases hs : s = b
    · subst hs
      rw [if_pos rfl] at e
      cases hm : getA m s with
      | none =>
        rw [hm] at e
        refine ih.congr fun c => ?_
        rw [e]
        simp only [Option.some.injEq, List.mem_cons, Prod.mk.injEq, true_and]
        constructor
        · rintro (rfl | h)
          · exact .inr (.inl rfl)
          · exact .inr (.inr h)
        · rintro (h | rfl | h)
          · cases h
          · exact .inl rfl
          · exact .inr h
      | some x =>
        rw [hm] at e
        have e' : getA (relax1 m s c0) s = some (min x c0) := e
        refine ⟨fun y hy => ?_, fun hn c hc => ?_⟩
        · obtain ⟨h1, h2⟩ := ih.1 y hy
          have hmin : y ≤ min x c0 := h2 _ (.inl e')
          refine ⟨?_, fun c hc => ?_⟩
          · rcases h1 with h1 | h1
            · rw [e'] at h1
              cases h1
              by_cases hxc : x ≤ c0
              · left; rw [Int.min_eq_left hxc]
              · right; rw [Int.min_eq_right (by omega)]; simp
            · exact .inr (List.mem_cons_of_mem _ h1)
          · rcases hc with hc | hc
            · cases hc
              omega
            · rcases List.mem_cons.mp hc with hc | hc
              · cases hc; omega
              · exact h2 c (.inr hc)
        · exact absurd (.inl e') (ih.2 hn _)
    · rw [if_neg hs] at e
      refine ih.congr fun c => ?_
      rw [e]
      simp only [List.mem_cons, Prod.mk.injEq]
      constructor
      · rintro (h | h)
        · exact .inl h
        · exact .inr (.inr h)
      · rintro (h | ⟨h, _⟩ | h)
        · exact .inl h
        · exact absurd h hs
        · exact .inr h
theorem mem_get {β : Type} {m : List (State × β)} (nd : (keysA m).Nodup) {s : State} {x : β} : (s, x) ∈ m ↔ getA m s = some x := by
  induction m with
  | nil => simp [getA_nil]
  | cons p m ih =>
    have nd' : (keysA m).Nodup ∧ p.1 ∉ keysA m := by
      unfold keysA at nd ⊢
      rw [List.map_cons, List.nodup_cons] at nd
      exact ⟨nd.2, nd.1⟩
    rw [List.mem_cons, getA_cons]
    by_cases h : p.1 = s
    · rw [if_pos h]
      constructor
      · rintro (e | e)
        · rw [← e]
        · exfalso
          refine nd'.2 ?_
          rw [h]
          exact List.mem_map.mpr ⟨(s, x), e, rfl⟩
      · intro e
        left
        cases e
        rw [← h]
    · rw [if_neg h, ← ih nd'.1]
      constructor
      · rintro (e | e)
        · exact absurd (by rw [← e]) h
        · exact e
      · exact .inr
theorem relaxAll_eq (h : Harbour) (ss : List Ship) (now : Int) (costs : List (State × Int)) : relaxAll h ss now costs = (costs.flatMap fun p => (goings h ss p.1 now).map fun g => (g.1, p.2 + g.2)).foldl (fun m q => relax1 m q.1 q.2) [] := by
  unfold relaxAll
  rw [List.foldl_flatMap]
  congr 1
  funext m p
  unfold relaxOne
  rw [List.foldl_map]
theorem relaxAll_min {h : Harbour} {ss : List Ship} {now : Int} {costs : List (State × Int)} (nd : (keysA costs).Nodup) (s : State) : IsMin (fun c => ∃ s0 x p, getA costs s0 = some x ∧ (s, p) ∈ goings h ss s0 now ∧ c = x + p) (getA (relaxAll h ss now costs) s) := by
  rw [relaxAll_eq]
  refine (relax_fold _ [] s).congr fun c => ?_
  rw [getA_nil]
  simp only [List.mem_flatMap, List.mem_map, Prod.mk.injEq]
  constructor
  · rintro (h1 | ⟨q, hq, g, hg, e1, e2⟩)
    · cases h1
    · exact ⟨q.1, q.2, g.2, (mem_get nd).mp hq, by rw [← e1]; exact hg, e2.symm⟩
  · rintro ⟨s0, x, p, h1, h2, rfl⟩
    exact .inr ⟨(s0, x), (mem_get nd).mpr h1, (s, p), h2, rfl, rfl⟩
/-- the least costs of all ways -/
theorem costs_min {h : Harbour} (hk : HOk h) {ss : List Ship} (sk : SsOk ss) {s0 : State} (so : StOk ss.length s0) : ∀ (n : Nat) (hs : List Int), hs.length = n → (∀ x ∈ hs, 0 ≤ x ∧ x ≤ 40) → ∀ s, IsMin (Path h ss hs s0 s) (getA (hs.foldl (fun m now => relaxAll h ss now m) [(s0, 0)]) s)
  | 0, hs, hl, _, s => by
    have : hs = [] := List.length_eq_zero_iff.mp hl
    subst this
    rw [List.foldl_nil, getA_cons, getA_nil]
    by_cases e : s0 = s
    · subst e
      rw [if_pos rfl]
      refine ⟨fun x hx => ?_, fun z => (nomatch z)⟩
      cases hx
      exact ⟨.nil _, fun c hc => by cases hc; omega⟩
    · rw [if_neg e]
      refine ⟨fun x hx => (nomatch hx), fun _ c hc => ?_⟩
      cases hc
      exact e rfl
  | n + 1, hs, hl, hb, s => by
    obtain ⟨hs', t, rfl⟩ : ∃ hs' t, hs = hs' ++ [t] := by
      have hne : hs ≠ [] := fun e => by rw [e] at hl; simp at hl
      exact ⟨hs.dropLast, hs.getLast hne, (List.dropLast_concat_getLast hne).symm⟩
    have hl' : hs'.length = n := by simpa using hl
    have hb' : ∀ x ∈ hs', 0 ≤ x ∧ x ≤ 40 := fun x hx => hb x (by simp [hx])
    have ih := costs_min hk sk so n hs' hl' hb'
    have ko : KOk ss.length (hs'.foldl (fun m now => relaxAll h ss now m) [(s0, 0)]) := KOk.costs hk sk hs' _ hb' ⟨by simp [keysA], fun s hs => by simp [keysA] at hs; subst hs; exact so⟩
    rw [List.foldl_append, List.foldl_cons, List.foldl_nil]
    refine ⟨fun x hx => ?_, fun hn c hc => ?_⟩
    · obtain ⟨⟨s1, a, p, h1, h2, rfl⟩, h3⟩ := (relaxAll_min ko.1 s).1 x hx
      refine ⟨Path.app ((ih s1).1 a h1).1 (.one h2), fun c hc => ?_⟩
      obtain ⟨s2, c1, c2, p1, p2, rfl⟩ := Path.split hc
      obtain ⟨y, hy, _, hle⟩ := (ih s2).some p1
      have := h3 (y + c2) ⟨s2, y, c2, hy, p2.one_inv, rfl⟩
      omega
    · obtain ⟨s2, c1, c2, p1, p2, rfl⟩ := Path.split hc
      obtain ⟨y, hy, _, _⟩ := (ih s2).some p1
      exact (relaxAll_min ko.1 s).2 hn (y + c2) ⟨s2, y, c2, hy, p2.one_inv, rfl⟩
end TW

/-! Plain: the table of rests. -/
namespace TW
open DL
def layersF (h : Harbour) (ss : List Ship) : List Int → List State → List Rows
  | [], _ => []
  | t :: hs, ps => layerOf h ss t ps :: layersF h ss hs (behindAll (layerOf h ss t ps))
theorem ways_layers (h : Harbour) (ss : List Ship) : ∀ (hs : List Int) (ws : List Rows) (ps : List State), (waysFrom h ss hs (ws, ps)).1 = ws ++ layersF h ss hs ps
  | [], ws, ps => by simp [waysFrom, layersF]
  | t :: hs, ws, ps => by
    rw [waysFrom, ways_layers h ss hs, layersF, List.append_assoc]
    rfl
def tabs (h : Harbour) (ss : List Ship) : List Int → List State → List (List (State × Int))
  | [], _ => [[(doneOf ss, 0)]]
  | t :: hs, ps => foundOf ((tabs h ss hs (behindAll (layerOf h ss t ps))).getD 0 []) (layerOf h ss t ps) :: tabs h ss hs (behindAll (layerOf h ss t ps))
theorem tabs_fold (h : Harbour) (ss : List Ship) : ∀ (hs : List Int) (ps : List State), (layersF h ss hs ps).foldr (fun rows rests => foundOf (rests.getD 0 []) rows :: rests) [[(doneOf ss, 0)]] = tabs h ss hs ps
  | [], ps => rfl
  | t :: hs, ps => by
    rw [layersF, List.foldr_cons, tabs_fold h ss hs, tabs]
theorem rests_tabs (h : Harbour) (ss : List Ship) : restTable h ss = tabs h ss (rng 0 (h.last + 1)) [seaOf ss] := by
  unfold restTable waysAll
  rw [ways_layers, List.nil_append, List.foldl_reverse]
  exact tabs_fold h ss _ _
theorem insK_in {l : List State} {s x : State} : x ∈ insK l s ↔ x = s ∨ x ∈ l := by
  unfold insK
  split
  · rename_i h
    constructor
    · exact .inr
    · rintro (rfl | h')
      · exact h
      · exact h'
  · simp [or_comm]
theorem insG_in : ∀ {gs : List (State × Int)} {l : List State} {x : State}, x ∈ gs.foldl (fun l g => insK l g.1) l ↔ x ∈ l ∨ ∃ g ∈ gs, g.1 = x
  | [], l, x => by simp
  | g :: gs, l, x => by
    rw [List.foldl_cons, insG_in, insK_in]
    simp only [List.mem_cons]
    constructor
    · rintro ((h | h) | ⟨g', h1, h2⟩)
      · exact .inr ⟨g, .inl rfl, h.symm⟩
      · exact .inl h
      · exact .inr ⟨g', .inr h1, h2⟩
    · rintro (h | ⟨g', h1 | h1, h2⟩)
      · exact .inl (.inr h)
      · subst h1; exact .inl (.inl h2.symm)
      · exact .inr ⟨g', h1, h2⟩
theorem behind_in : ∀ {rows : Rows} {l : List State} {x : State}, x ∈ rows.foldl (fun l q => q.2.foldl (fun l g => insK l g.1) l) l ↔ x ∈ l ∨ ∃ q ∈ rows, ∃ g ∈ q.2, g.1 = x
  | [], l, x => by simp
  | q :: rows, l, x => by
    rw [List.foldl_cons, behind_in, insG_in]
    simp only [List.mem_cons]
    constructor
    · rintro ((h | ⟨g, h1, h2⟩) | ⟨q', h1, h2⟩)
      · exact .inl h
      · exact .inr ⟨q, .inl rfl, g, h1, h2⟩
      · exact .inr ⟨q', .inr h1, h2⟩
    · rintro (h | ⟨q', h1 | h1, h2⟩)
      · exact .inl (.inl h)
      · subst h1; exact .inl (.inr h2)
      · exact .inr ⟨q', h1, h2⟩
theorem behindAll_in {h : Harbour} {ss : List Ship} {t : Int} {ps : List State} {s x : State} {c : Int} (hs : s ∈ ps) (hg : (x, c) ∈ goings h ss s t) : x ∈ behindAll (layerOf h ss t ps) :=
  behind_in.mpr (.inr ⟨(s, goings h ss s t), List.mem_map.mpr ⟨s, hs, rfl⟩, (x, c), hg, rfl⟩)
theorem fstep_get (rest : List (State × Int)) (q : State × List (State × Int)) (m : List (State × Int)) (s : State) : getA (foundStep rest m q) s = if s = q.1 then (minOf (costsOn rest q.2)).orElse (fun _ => getA m s) else getA m s := by
  unfold foundStep
  cases hm : minOf (costsOn rest q.2) with
  | none =>
    show getA m s = _
    split <;> rfl
  | some x => exact getA_put ..
theorem found_get (rest : List (State × Int)) (G : State → List (State × Int)) (s : State) : ∀ (ps : List State) (m : List (State × Int)),
    getA ((ps.map fun s => (s, G s)).foldl (foundStep rest) m) s = if s ∈ ps then (minOf (costsOn rest (G s))).orElse (fun _ => getA m s) else getA m s
  | [], m => by simp
  | p :: ps, m => by
    rw [List.map_cons, List.foldl_cons, found_get rest G s ps, fstep_get]
    by_cases e : s = p
    · subst e
      rw [if_pos (List.mem_cons_self ..), if_pos rfl]
      cases hm : minOf (costsOn rest (G s)) with
      | none => simp
      | some x => simp
    · have e2 : (s ∈ p :: ps) ↔ s ∈ ps := by simp [e]
      rw [if_neg e]
      simp only [e2]
theorem min_costsOn {rest : List (State × Int)} {gs : List (State × Int)} {P : State → Int → Prop} (hr : ∀ g ∈ gs, IsMin (P g.1) (getA rest g.1)) : IsMin (fun c => ∃ s a b, (s, a) ∈ gs ∧ P s b ∧ c = a + b) (minOf (costsOn rest gs)) := by
  have hmem : ∀ y, y ∈ costsOn rest gs ↔ ∃ s a b, (s, a) ∈ gs ∧ getA rest s = some b ∧ y = a + b := by
    intro y
    unfold costsOn
    rw [List.mem_filterMap]
    constructor
    · rintro ⟨g, h1, h2⟩
      obtain ⟨x, h3, h4⟩ := Option.map_eq_some_iff.mp h2
      exact ⟨g.1, g.2, x, h1, h3, h4.symm⟩
    · rintro ⟨s, a, b, h1, h2, rfl⟩
      exact ⟨(s, a), h1, by rw [h2]; rfl⟩
  refine ⟨fun x hx => ?_, fun hn c hc => ?_⟩
  · obtain ⟨h1, h2⟩ := minOf_spec hx
    obtain ⟨s, a, b, e1, e2, rfl⟩ := (hmem _).mp h1
    refine ⟨⟨s, a, b, e1, ((hr _ e1).1 b e2).1, rfl⟩, fun c hc => ?_⟩
    obtain ⟨s', a', b', g1, g2, rfl⟩ := hc
    obtain ⟨x', f1, _, f3⟩ := (hr _ g1).some g2
    have := h2 (a' + x') ((hmem _).mpr ⟨s', a', x', g1, f1, rfl⟩)
    omega
  · obtain ⟨s', a', b', g1, g2, rfl⟩ := hc
    obtain ⟨x', f1, _, f3⟩ := (hr _ g1).some g2
    have := (hmem _).mpr ⟨s', a', x', g1, f1, rfl⟩
    rw [minOf_none.mp hn] at this
    simp at this
theorem tabs_spec (h : Harbour) (ss : List Ship) : ∀ (hs : List Int) (ps : List State) (i : Nat), i ≤ hs.length → ∃ m, (tabs h ss hs ps)[i]? = some m ∧ ∀ s0 ∈ ps, ∀ s c, Path h ss (hs.take i) s0 s c → IsMin (Path h ss (hs.drop i) s (doneOf ss)) (getA m s)
  | [], ps, i, hi => by
    have : i = 0 := by simpa using hi
    subst this
    refine ⟨_, rfl, fun s0 h0 s c p => ?_⟩
    rw [getA_cons, getA_nil]
    simp only [List.drop_nil]
    by_cases e : doneOf ss = s
    · subst e
      rw [if_pos rfl]
      refine ⟨fun x hx => ?_, fun z => (nomatch z)⟩
      cases hx
      exact ⟨.nil _, fun c hc => by cases hc; omega⟩
    · rw [if_neg e]
      refine ⟨fun x hx => (nomatch hx), fun _ c hc => ?_⟩
      cases hc
      exact e rfl
  | t :: hs, ps, 0, hi => by
    obtain ⟨m, hm, hr⟩ := tabs_spec h ss hs (behindAll (layerOf h ss t ps)) 0 (by omega)
    refine ⟨_, by rw [tabs]; rfl, fun s0 h0 s c p => ?_⟩
    have e0 : s = s0 := by
      rw [List.take_zero] at p
      cases p
      rfl
    subst e0
    have e1 : (tabs h ss hs (behindAll (layerOf h ss t ps))).getD 0 [] = m := by rw [List.getD_eq_getElem?_getD, hm]; rfl
    rw [e1, List.drop_zero]
    have e2 : getA (foundOf m (layerOf h ss t ps)) s = minOf (costsOn m (goings h ss s t)) := by
      show getA ((ps.map fun s => (s, goings h ss s t)).foldl (foundStep m) []) s = _
      rw [found_get m (fun s => goings h ss s t) s ps [], if_pos h0]
      cases minOf (costsOn m (goings h ss s t)) <;> rfl
    rw [e2]
    refine (min_costsOn (P := fun s' => Path h ss hs s' (doneOf ss)) fun g hg => ?_).congr fun c => ?_
    · have := hr g.1 (behindAll_in h0 (c := g.2) hg) g.1 0 (by rw [List.take_zero]; exact .nil _)
      rwa [List.drop_zero] at this
    · constructor
      · rintro ⟨s', a, b, h1, h2, rfl⟩
        exact .cons h1 h2
      · intro q
        cases q with
        | cons g q => exact ⟨_, _, _, g, q, rfl⟩
  | t :: hs, ps, i + 1, hi => by
    obtain ⟨m, hm, hr⟩ := tabs_spec h ss hs (behindAll (layerOf h ss t ps)) i (by simpa using hi)
    refine ⟨m, by rw [tabs]; exact hm, fun s0 h0 s c p => ?_⟩
    rw [List.take_succ_cons] at p
    rw [List.drop_succ_cons]
    cases p with
    | cons g q => exact hr _ (behindAll_in h0 g) s _ q
/-- the rests of the program's table, at each state that is reached -/
theorem rests_min (h : Harbour) (ss : List Ship) {i : Nat} (hi : i ≤ (rng 0 (h.last + 1)).length) : ∃ m, (restTable h ss)[i]? = some m ∧ ∀ s c, Path h ss ((rng 0 (h.last + 1)).take i) (seaOf ss) s c → IsMin (Path h ss ((rng 0 (h.last + 1)).drop i) s (doneOf ss)) (getA m s) := by
  obtain ⟨m, h1, h2⟩ := tabs_spec h ss (rng 0 (h.last + 1)) [seaOf ss] i hi
  rw [← rests_tabs] at h1
  exact ⟨m, h1, fun s c p => h2 _ (by simp) s c p⟩
theorem rng_bd {last : Int} (l1 : last ≤ 40) : ∀ x ∈ rng 0 (last + 1), 0 ≤ x ∧ x ≤ 40 := by
  intro x hx
  unfold rng at hx
  obtain ⟨i, hi, rfl⟩ := List.mem_map.mp hx
  have := List.mem_range.mp hi
  omega
theorem least_min {h : Harbour} (hk : HOk h) {ss : List Ship} (sk : SsOk ss) : IsMin (Path h ss (rng 0 (h.last + 1)) (seaOf ss) (doneOf ss)) (leastOf h ss) :=
  costs_min hk sk (sea_ok ss) _ _ rfl (rng_bd hk.l1) _
end TW

/-! Plain: a plan that is a way through the hours: its rests, and where it parts. -/
namespace TW
open DL
theorem price_pos {s : Ship} (sk : SOk s) (p q : Place) (t : Int) : 0 ≤ priceOfHour s p q t := by
  have := sk.s0
  have := sk.i0
  unfold priceOfHour
  split <;> split <;> omega
theorem rows_pos {h : Harbour} {t : Int} : ∀ (l : List (Ship × Place)) (rows : List Row), (∀ q ∈ l, SOk q.1) → (∀ r ∈ rows, 0 ≤ r.cost) → ∀ r ∈ l.foldl (fun rows q => stepRows h q.1 q.2 t rows) rows, 0 ≤ r.cost
  | [], rows, _, hr => hr
  | q :: l, rows, hl, hr => by
    rw [List.foldl_cons]
    refine rows_pos l _ (fun q hq => hl q (List.mem_cons_of_mem _ hq)) fun r h1 => ?_
    unfold stepRows at h1
    obtain ⟨w, hw, h2⟩ := List.mem_flatMap.mp h1
    obtain ⟨r', h3, rfl⟩ := List.mem_map.mp h2
    have := hr r' (List.mem_filter.mp h3).1
    have := price_pos (hl q (List.mem_cons_self ..)) q.2 w.1 t
    show 0 ≤ r'.cost + priceOfHour q.1 q.2 w.1 t
    omega
theorem goings_pos {h : Harbour} {ss : List Ship} (sk : SsOk ss) {st st' : State} {t c : Int} (hg : (st', c) ∈ goings h ss st t) : 0 ≤ c := by
  unfold goings at hg
  obtain ⟨r, hr, e⟩ := List.mem_map.mp hg
  have e2 : r.cost = c := congrArg Prod.snd e
  rw [← e2]
  refine rows_pos (ss.zip st) _ (fun q hq => sk q.1 (List.of_mem_zip hq).1) (fun r hr => ?_) r hr
  rw [List.mem_singleton] at hr
  subst hr
  exact Int.le_refl 0
theorem path_pos {h : Harbour} {ss : List Ship} (sk : SsOk ss) : ∀ {ts : List Int} {s s' : State} {c : Int}, Path h ss ts s s' c → 0 ≤ c
  | [], _, _, _, p => by cases p; omega
  | t :: ts, _, _, _, p => by
    cases p with
    | cons g q =>
      have := goings_pos sk g
      have := path_pos sk q
      omega
theorem part_ge {f : Nat → Int} {least : Int} : ∀ {cs : List Int} {i : Nat} {s : Int}, partFrom f least i s cs = none → ∀ j, j < cs.length → ¬ least < s + (cs.take (j + 1)).sum + f (i + j)
  | [], _, _, _, j, hj => by simp at hj
  | c :: cs, i, s, hn, j, hj => by
    rw [partFrom] at hn
    by_cases e : least < s + c + f i
    · rw [if_pos e] at hn
      cases hn
    · rw [if_neg e] at hn
      cases j with
      | zero => simpa using e
      | succ j =>
        have := part_ge hn j (by simpa using hj)
        rw [List.take_succ_cons, List.sum_cons]
        rw [show i + 1 + j = i + (j + 1) by omega] at this
        intro z
        apply this
        omega
theorem take_sum (l : List Int) (i : Nat) : (l.take (i + 1)).sum = (l.take i).sum + l.getD i 0 := by
  rw [List.take_add_one, List.sum_append, List.getD_eq_getElem?_getD]
  cases l[i]? <;> simp
def hrs (i n : Nat) : List Int := (List.range' i n).map fun j : Nat => (j : Int)
theorem rng_hrs (b : Int) : rng 0 b = hrs 0 b.toNat := by
  unfold rng hrs
  rw [List.range_eq_range', Int.sub_zero]
  exact List.map_congr_left fun x _ => Int.zero_add _
theorem hrs_split {N i : Nat} (h : i ≤ N) : hrs 0 N = hrs 0 i ++ hrs i (N - i) := by
  unfold hrs
  rw [← List.map_append]
  congr 1
  have := @List.range'_append_1 0 i (N - i)
  rw [Nat.zero_add] at this
  rw [this]
  congr 1
  omega
theorem hrs_take {N i : Nat} (h : i ≤ N) : (hrs 0 N).take i = hrs 0 i := by
  rw [hrs_split h]
  exact List.take_left' (by simp [hrs])
theorem hrs_drop {N i : Nat} (h : i ≤ N) : (hrs 0 N).drop i = hrs i (N - i) := by
  rw [hrs_split h]
  exact List.drop_left' (by simp [hrs])
/-- the plan is a way through the hours -/
structure WayOf (h : Harbour) (ss : List Ship) (p : Plan) : Prop where
  step : ∀ i : Nat, i < (h.last + 1).toNat → (stateBehind ss p ((i + 1 : Nat) : Int), (hourCosts ss p).getD i 0) ∈ goings h ss (stateBehind ss p (i : Int)) (i : Int)
  sea : stateBehind ss p ((0 : Nat) : Int) = seaOf ss
  done : stateBehind ss p (((h.last + 1).toNat : Nat) : Int) = doneOf ss
  sum : (hourCosts ss p).sum = costOf ss p
  l1 : 1 ≤ (hourCosts ss p).length
  ln : (hourCosts ss p).length ≤ (h.last + 1).toNat
theorem WayOf.seg {h : Harbour} {ss : List Ship} {p : Plan} (W : WayOf h ss p) : ∀ (n i : Nat), i + n ≤ (h.last + 1).toNat → Path h ss (hrs i n) (stateBehind ss p (i : Int)) (stateBehind ss p ((i + n : Nat) : Int)) (((hourCosts ss p).take (i + n)).sum - ((hourCosts ss p).take i).sum)
  | 0, i, _ => by
    rw [Nat.add_zero, Int.sub_self]
    exact .nil _
  | n + 1, i, hi => by
    have q := WayOf.seg W n (i + 1) (by omega)
    have g := W.step i (by omega)
    have e : hrs i (n + 1) = (i : Int) :: hrs (i + 1) n := by
      unfold hrs
      rw [List.range'_succ]
      rfl
    have e2 : i + 1 + n = i + (n + 1) := by omega
    rw [e2] at q
    have e3 := take_sum (hourCosts ss p) i
    have r := Path.cons g q
    rw [e]
    have e4 : (hourCosts ss p).getD i 0 + (((hourCosts ss p).take (i + (n + 1))).sum - ((hourCosts ss p).take (i + 1)).sum) = ((hourCosts ss p).take (i + (n + 1))).sum - ((hourCosts ss p).take i).sum := by omega
    rwa [e4] at r
theorem WayOf.good {h : Harbour} (hk : HOk h) {ss : List Ship} (sk : SsOk ss) {p : Plan} (W : WayOf h ss p) : RestsOk h ss p ∧ ∃ x, leastOf h ss = some x ∧ 0 ≤ costOf ss p - x ∧ (costOf ss p - x = 0 ↔ parting h ss p = none) := by
  have key : ∀ i : Nat, i ≤ (h.last + 1).toNat → ∃ m x, (restTable h ss)[i]? = some m ∧ getA m (stateBehind ss p (i : Nat)) = some x ∧ 0 ≤ x ∧ x ≤ costOf ss p - ((hourCosts ss p).take i).sum ∧ (i = 0 → leastOf h ss = some x) := by
    intro i hi
    have hl : (rng 0 (h.last + 1)).length = (h.last + 1).toNat := by rw [rng_hrs]; simp [hrs]
    obtain ⟨m, h1, h2⟩ := rests_min h ss (i := i) (by omega)
    have p1 := W.seg i 0 (by omega)
    have p2 := W.seg ((h.last + 1).toNat - i) i (by omega)
    rw [W.sea, Nat.zero_add] at p1
    rw [show i + ((h.last + 1).toNat - i) = (h.last + 1).toNat by omega, W.done, List.take_of_length_le W.ln, W.sum] at p2
    have mn := h2 (stateBehind ss p (i : Nat)) _ (by rw [rng_hrs, hrs_take hi]; exact p1)
    have mn2 := mn
    rw [rng_hrs, hrs_drop hi] at mn
    obtain ⟨x, e1, e2, e3⟩ := mn.some p2
    refine ⟨m, x, h1, e1, path_pos sk e2, e3, fun e0 => ?_⟩
    subst e0
    rw [List.drop_zero, W.sea] at mn2
    rw [(least_min hk sk).eq mn2, ← W.sea]
    exact e1
  have rst : ∀ i : Nat, i ≤ (h.last + 1).toNat → ∃ x, restAt (restTable h ss) i (stateBehind ss p (i : Nat)) = x ∧ 0 ≤ x ∧ x ≤ costOf ss p - ((hourCosts ss p).take i).sum ∧ (i = 0 → leastOf h ss = some x) := by
    intro i hi
    obtain ⟨m, x, e1, e2, e3⟩ := key i hi
    refine ⟨x, ?_, e3⟩
    unfold restAt
    rw [List.getD_eq_getElem?_getD, e1]
    show (getA m _).getD 0 = x
    rw [e2]
    rfl
  refine ⟨fun i hi => ?_, ?_⟩
  · have := W.ln
    obtain ⟨m, x, e1, e2, _⟩ := key i (by omega)
    exact ⟨m, x, e1, e2⟩
  · obtain ⟨x, e1, e2, e3, e4⟩ := rst 0 (by omega)
    refine ⟨x, e4 rfl, ?_, ?_⟩
    · simp at e3
      omega
    · have e1' : restAt (restTable h ss) 0 (stateBehind ss p 0) = x := e1
      unfold parting
      rw [e1']
      have hln := W.ln
      have hl1 := W.l1
      constructor
      · intro z
        refine part_none fun j hj => ?_
        obtain ⟨y, f1, f2, f3, _⟩ := rst (j + 1) (by omega)
        rw [Nat.zero_add, Int.zero_add]
        have f1' : restAt (restTable h ss) (j + 1) (stateBehind ss p ((j : Int) + 1)) = y := f1
        rw [f1']
        omega
      · intro z
        have g := part_ge z ((hourCosts ss p).length - 1) (by omega)
        rw [Nat.zero_add, Int.zero_add] at g
        obtain ⟨y, f1, f2, f3, _⟩ := rst ((hourCosts ss p).length - 1 + 1) (by omega)
        have f1' : restAt (restTable h ss) ((hourCosts ss p).length - 1 + 1) (stateBehind ss p ((((hourCosts ss p).length - 1 : Nat) : Int) + 1)) = y := f1
        rw [f1', show (hourCosts ss p).length - 1 + 1 = (hourCosts ss p).length by omega, List.take_length, W.sum] at g
        simp at e3
        omega
end TW

/-! Plain: a plan without a fault is a way through the hours. -/
namespace TW
open DL
/-- the ship's own rules -/
structure OwnOk (h : Harbour) (s : Ship) (m : Mv) : Prop where
  early : s.ready ≤ m.1
  stay : m.1 + s.stay + 1 ≤ m.2.2
  late : m.2.2 ≤ h.last
  b0 : 0 ≤ m.2.1
  b1 : m.2.1 < (h.berths.length : Int)
  fits : s.length ≤ h.berths.getD m.2.1.toNat 0
  din : s.draught ≤ depthAt h m.1
  dout : s.draught ≤ depthAt h m.2.2
theorem own_ok {h : Harbour} {s : Ship} {m : Mv} : ownWrong h s m = none ↔ OwnOk h s m := by
  unfold ownWrong
  constructor
  · intro z
    by_cases h1 : m.1 < s.ready ∨ m.2.2 < m.1 + s.stay + 1
    · rw [if_pos h1] at z; cases z
    rw [if_neg h1] at z
    by_cases h2 : h.last < m.2.2
    · rw [if_pos h2] at z; cases z
    rw [if_neg h2] at z
    by_cases h3 : ¬ (0 ≤ m.2.1 ∧ m.2.1 < (h.berths.length : Int)) ∨ h.berths.getD m.2.1.toNat 0 < s.length
    · rw [if_pos h3] at z; cases z
    rw [if_neg h3] at z
    by_cases h4 : depthAt h m.1 < s.draught ∨ depthAt h m.2.2 < s.draught
    · rw [if_pos h4] at z; cases z
    exact ⟨by omega, by omega, by omega, by omega, by omega, by omega, by omega, by omega⟩
  · intro o
    have := o.early; have := o.stay; have := o.late; have := o.b0; have := o.b1; have := o.fits; have := o.din; have := o.dout
    rw [if_neg (by omega), if_neg (by omega), if_neg (by omega), if_neg (by omega)]
def berthNow (m : Mv) (t : Int) : Option Int := if t < m.1 then none else if m.2.2 < t then none else some m.2.1
def movesNow (m : Mv) (t : Int) : Bool := decide (t = m.1) || decide (t = m.2.2)
def wayAt (s : Ship) (m : Mv) (t : Int) : Way := (placeBehind s m (t + 1), berthNow m t, movesNow m t)
theorem way_in {h : Harbour} {s : Ship} {m : Mv} (sk : SOk s) (o : OwnOk h s m) (t : Int) : wayAt s m t ∈ waysOut h s (placeBehind s m t) t := by
  obtain ⟨f, b, u⟩ := m
  have e1 := o.early; have e2 := o.stay; have e3 := o.b0; have e4 := o.b1; have e5 := o.fits; have e6 := o.din; have e7 := o.dout
  have e8 := sk.t0
  dsimp only at e1 e2 e3 e4 e5 e6 e7
  unfold wayAt placeBehind berthNow movesNow waysOut
  dsimp only
  by_cases c1 : t < f
  · rw [if_pos (show t + 1 ≤ f by omega), if_pos c1, if_pos (show t ≤ f by omega), if_neg (by decide), if_pos rfl, decide_eq_false (show ¬ t = f by omega), decide_eq_false (show ¬ t = u by omega)]
    exact List.mem_cons_self ..
  by_cases c2 : t = f
  · subst c2
    rw [if_neg (show ¬ t + 1 ≤ t by omega), if_neg (show ¬ u < t + 1 by omega), if_neg c1, if_neg (show ¬ u < t by omega), if_neg (show ¬ u < t by omega), if_pos (Int.le_refl t), if_neg (by decide), if_pos rfl, if_pos ⟨e6, e1⟩, decide_eq_true rfl]
    refine List.mem_cons_of_mem _ (List.mem_map.mpr ⟨(h.berths.getD b.toNat 0, b.toNat), List.mem_filter.mpr ⟨?_, ?_⟩, ?_⟩)
    · rw [List.mk_mem_zipIdx_iff_getElem?, List.getD_eq_getElem?_getD, List.getElem?_eq_getElem (show b.toNat < h.berths.length by omega)]
      rfl
    · exact decide_eq_true e5
    · have a1 : ((b.toNat : Nat) : Int) = b := by omega
      have a2 : max (t + s.stay + 1) (t + 1) = t + s.stay + 1 := by omega
      dsimp only
      rw [a1, a2]
      rfl
  have ns : ∀ x : Int, ((b, x) : Place) ≠ SEA := fun x z => by
    have := congrArg Prod.fst z
    simp only [SEA] at this
    omega
  have ng : ∀ x : Int, ((b, x) : Place) ≠ GONE := fun x z => by
    have := congrArg Prod.fst z
    simp only [GONE] at this
    omega
  by_cases c3 : t < u
  · rw [if_neg (show ¬ t + 1 ≤ f by omega), if_neg (show ¬ u < t + 1 by omega), if_neg c1, if_neg (show ¬ u < t by omega), if_neg (show ¬ u < t by omega), if_neg (show ¬ t ≤ f by omega), if_neg (ng _), if_neg (ns _), decide_eq_false c2, decide_eq_false (show ¬ t = u by omega)]
    have a2 : max (max (f + s.stay + 1) t) (t + 1) = max (f + s.stay + 1) (t + 1) := by omega
    dsimp only
    rw [a2]
    exact List.mem_cons_self ..
  by_cases c4 : t = u
  · subst c4
    rw [if_neg (show ¬ t + 1 ≤ f by omega), if_pos (show t < t + 1 by omega), if_neg c1, if_neg (show ¬ t < t by omega), if_neg (show ¬ t < t by omega), if_neg (show ¬ t ≤ f by omega), if_neg (ng _), if_neg (ns _), decide_eq_false c2, decide_eq_true rfl]
    dsimp only
    rw [if_pos ⟨e7, by omega⟩]
    exact List.mem_cons_of_mem _ (List.mem_singleton.mpr rfl)
  · rw [if_neg (show ¬ t + 1 ≤ f by omega), if_pos (show u < t + 1 by omega), if_neg c1, if_pos (show u < t by omega), if_pos (show u < t by omega), if_neg (show ¬ t ≤ f by omega), if_pos rfl, decide_eq_false c2, decide_eq_false c4]
    exact List.mem_cons_self ..
def needNow (t : Int) (q : Ship × Mv) : Int := b2 (movesNow q.2 t) * q.1.need
def pilotNow (t : Int) (q : Ship × Mv) : Int := b2 (movesNow q.2 t)
def priceNow (t : Int) (q : Ship × Mv) : Int := priceOfHour q.1 (placeBehind q.1 q.2 t) (placeBehind q.1 q.2 (t + 1)) t
theorem chain {h : Harbour} {t : Int} : ∀ (L : List (Ship × Mv)) (rows : List Row) (r : Row), r ∈ rows → (∀ q ∈ L, SOk q.1 ∧ OwnOk h q.1 q.2) → L.Pairwise (fun a b => ∀ x, berthNow a.2 t = some x → berthNow b.2 t ≠ some x) →
    (∀ q ∈ L, ∀ x, berthNow q.2 t = some x → x ∉ r.taken) → r.tugs + (L.map (needNow t)).sum ≤ h.tugs → r.pilots + (L.map (pilotNow t)).sum ≤ h.pilots →
    ∃ r' ∈ (L.map fun q => (q.1, placeBehind q.1 q.2 t)).foldl (fun rows q => stepRows h q.1 q.2 t rows) rows, r'.places = r.places ++ L.map (fun q => placeBehind q.1 q.2 (t + 1)) ∧ r'.cost = r.cost + (L.map (priceNow t)).sum
  | [], rows, r, hr, _, _, _, _, _ => ⟨r, hr, by simp, by simp⟩
  | q :: L, rows, r, hr, ok, pw, fr, tg, pi => by
    rw [List.map_cons, List.foldl_cons]
    rw [List.map_cons, List.sum_cons] at tg pi
    have pw' := List.pairwise_cons.mp pw
    have n1 : 0 ≤ (L.map (needNow t)).sum := by
      clear tg pi pw pw' fr
      induction L with
      | nil => simp
      | cons a L ih =>
        rw [List.map_cons, List.sum_cons]
        have := ih fun q hq => ok q (by simp at hq ⊢; rcases hq with h | h; exact .inl h; exact .inr (.inr h))
        have hn := (ok a (by simp)).1.n0
        have : 0 ≤ needNow t a := by
          unfold needNow b2
          split <;> omega
        omega
    have n2 : 0 ≤ (L.map (pilotNow t)).sum := by
      clear tg pi pw pw' fr n1 ok
      induction L with
      | nil => simp
      | cons a L ih =>
        rw [List.map_cons, List.sum_cons]
        have : 0 ≤ pilotNow t a := by
          unfold pilotNow b2
          split <;> omega
        omega
    have hq := ok q (List.mem_cons_self ..)
    have hin : rowNext q.1 (placeBehind q.1 q.2 t) t (wayAt q.1 q.2 t) r ∈ stepRows h q.1 (placeBehind q.1 q.2 t) t rows := by
      unfold stepRows
      refine List.mem_flatMap.mpr ⟨_, way_in hq.1 hq.2 t, List.mem_map.mpr ⟨r, List.mem_filter.mpr ⟨hr, ?_⟩, rfl⟩⟩
      unfold rowOk
      rw [Bool.and_eq_true, Bool.and_eq_true, decide_eq_true_iff, decide_eq_true_iff]
      refine ⟨?_, ?_, ?_⟩
      · show freeOf r.taken (berthNow q.2 t) = true
        cases e : berthNow q.2 t with
        | none => rfl
        | some x =>
          have := fr q (List.mem_cons_self ..) x e
          simp [freeOf, this]
      · show r.tugs + needNow t q ≤ h.tugs
        omega
      · show r.pilots + pilotNow t q ≤ h.pilots
        omega
    obtain ⟨r', h1, h2, h3⟩ := chain L _ _ hin (fun a ha => ok a (List.mem_cons_of_mem _ ha)) pw'.2 (fun a ha x hx => by
      show x ∉ keptOf r.taken (berthNow q.2 t)
      have f1 := fr a (List.mem_cons_of_mem _ ha) x hx
      cases e : berthNow q.2 t with
      | none => exact f1
      | some y =>
        show x ∉ r.taken ++ [y]
        intro z
        rcases List.mem_append.mp z with z | z
        · exact f1 z
        · rw [List.mem_singleton] at z
          subst z
          exact pw'.1 a ha x e hx) (by show r.tugs + needNow t q + _ ≤ _; omega) (by show r.pilots + pilotNow t q + _ ≤ _; omega)
    refine ⟨r', h1, ?_, ?_⟩
    · rw [h2, List.map_cons]
      show (r.places ++ [placeBehind q.1 q.2 (t + 1)]) ++ _ = _
      rw [List.append_assoc]
      rfl
    · rw [h3, List.map_cons, List.sum_cons]
      show r.cost + priceNow t q + _ = _
      omega
end TW

/-! Plain: the costs of the hours. -/
namespace TW
open DL
def add1 (x : Int) (l : List Int) (j : Nat) : List Int := l.set j (l.getD j 0 + x)
theorem add1_len (x : Int) (l : List Int) (j : Nat) : (add1 x l j).length = l.length := List.length_set ..
theorem add1_get {x : Int} {l : List Int} {j : Nat} (h : j < l.length) (t : Nat) : (add1 x l j).getD t 0 = l.getD t 0 + if t = j then x else 0 := by
  unfold add1
  rw [List.getD_eq_getElem?_getD, List.getElem?_set]
  by_cases e : j = t
  · subst e
    rw [if_pos rfl, if_pos h, if_pos rfl]
    rfl
  · rw [if_neg e, if_neg (fun z => e z.symm), Int.add_zero, List.getD_eq_getElem?_getD]
theorem add1_sum {x : Int} : ∀ {l : List Int} {j : Nat}, j < l.length → (add1 x l j).sum = l.sum + x
  | [], j, h => by simp at h
  | y :: l, 0, h => by
    show (y + x + l.sum) = y + l.sum + x
    omega
  | y :: l, j + 1, h => by
    have := add1_sum (x := x) (l := l) (j := j) (by simpa using h)
    show y + (add1 x l j).sum = y + l.sum + x
    omega
def addN (x : Int) (l : List Int) (a n : Nat) : List Int := (List.range' a n).foldl (add1 x) l
theorem addN_all (x : Int) : ∀ (n a : Nat) (l : List Int), a + n ≤ l.length → (addN x l a n).length = l.length ∧ (addN x l a n).sum = l.sum + (n : Int) * x ∧ ∀ t, (addN x l a n).getD t 0 = l.getD t 0 + if a ≤ t ∧ t < a + n then x else 0
  | 0, a, l, _ => ⟨rfl, by simp [addN], fun t => by
    show l.getD t 0 = _
    rw [if_neg (by omega), Int.add_zero]⟩
  | n + 1, a, l, h => by
    have e : addN x l a (n + 1) = addN x (add1 x l a) (a + 1) n := by
      unfold addN
      rw [List.range'_succ]
      rfl
    obtain ⟨h1, h2, h3⟩ := addN_all x n (a + 1) (add1 x l a) (by rw [add1_len]; omega)
    rw [e]
    refine ⟨by rw [h1, add1_len], ?_, fun t => ?_⟩
    · rw [h2, add1_sum (by omega), Int.natCast_succ, Int.add_mul, Int.one_mul]
      omega
    · rw [h3, add1_get (by omega)]
      by_cases c : t = a
      · subst c
        rw [if_pos rfl, if_neg (by omega), if_pos (by omega)]
        omega
      · rw [if_neg c]
        by_cases d : a + 1 ≤ t ∧ t < a + 1 + n
        · rw [if_pos d, if_pos (by omega)]
          omega
        · rw [if_neg d, if_neg (by omega)]
          omega
theorem addRange_eq (l : List Int) {a : Int} (ha : 0 ≤ a) (b x : Int) : addRange l a b x = addN x l a.toNat (b - a).toNat := by
  unfold addRange addN rng
  rw [List.foldl_map, List.range'_eq_map_range, List.foldl_map]
  congr 1
  funext l i
  have : (a + (i : Int)).toNat = a.toNat + i := by omega
  rw [this]
  rfl
theorem addRange_all (l : List Int) {a b : Int} (ha : 0 ≤ a) (hab : a ≤ b) (hb : b ≤ (l.length : Int)) (x : Int) : (addRange l a b x).length = l.length ∧ (addRange l a b x).sum = l.sum + (b - a) * x ∧ ∀ t : Nat, (addRange l a b x).getD t 0 = l.getD t 0 + if a ≤ (t : Int) ∧ (t : Int) < b then x else 0 := by
  rw [addRange_eq l ha]
  obtain ⟨h1, h2, h3⟩ := addN_all x (b - a).toNat a.toNat l (by omega)
  refine ⟨h1, ?_, fun t => ?_⟩
  · rw [h2]
    have : (((b - a).toNat : Nat) : Int) = b - a := by omega
    rw [this]
  · rw [h3]
    by_cases c : a ≤ (t : Int) ∧ (t : Int) < b
    · rw [if_pos c, if_pos (by omega)]
    · rw [if_neg c, if_neg (by omega)]
def costQ (q : Ship × Mv) : Int := (q.2.1 - q.1.ready) * q.1.sea + (q.2.2.2 - q.2.1 - q.1.stay - 1) * q.1.lie
def hourQ (t : Nat) (q : Ship × Mv) : Int := (if q.1.ready ≤ (t : Int) ∧ (t : Int) < q.2.1 then q.1.sea else 0) + (if q.2.1 + q.1.stay + 1 ≤ (t : Int) ∧ (t : Int) < q.2.2.2 then q.1.lie else 0)
theorem hc_fold : ∀ (L : List (Ship × Mv)) (l : List Int), (∀ q ∈ L, 0 ≤ q.1.ready ∧ q.1.ready ≤ q.2.1 ∧ 0 ≤ q.1.stay ∧ q.2.1 + q.1.stay + 1 ≤ q.2.2.2 ∧ q.2.2.2 ≤ (l.length : Int)) →
    let l' := L.foldl (fun l p => addRange (addRange l p.1.ready p.2.1 p.1.sea) (p.2.1 + p.1.stay + 1) p.2.2.2 p.1.lie) l
    l'.length = l.length ∧ l'.sum = l.sum + (L.map costQ).sum ∧ ∀ t : Nat, l'.getD t 0 = l.getD t 0 + (L.map (hourQ t)).sum
  | [], l, _ => ⟨rfl, by simp, fun t => by simp⟩
  | q :: L, l, h => by
    have hq := h q (List.mem_cons_self ..)
    obtain ⟨a1, a2, a3⟩ := addRange_all l (a := q.1.ready) (b := q.2.1) hq.1 hq.2.1 (by omega) q.1.sea
    obtain ⟨b1, b2, b3⟩ := addRange_all (addRange l q.1.ready q.2.1 q.1.sea) (a := q.2.1 + q.1.stay + 1) (b := q.2.2.2) (by omega) (by omega) (by omega) q.1.lie
    obtain ⟨c1, c2, c3⟩ := hc_fold L (addRange (addRange l q.1.ready q.2.1 q.1.sea) (q.2.1 + q.1.stay + 1) q.2.2.2 q.1.lie) (fun r hr => by
      have := h r (List.mem_cons_of_mem _ hr)
      rw [b1, a1]
      exact this)
    dsimp only
    rw [List.foldl_cons]
    refine ⟨by rw [c1, b1, a1], ?_, fun t => ?_⟩
    · rw [c2, b2, a2, List.map_cons, List.sum_cons]
      have : costQ q = (q.2.1 - q.1.ready) * q.1.sea + (q.2.2.2 - (q.2.1 + q.1.stay + 1)) * q.1.lie := by
        unfold costQ
        congr 2
        omega
      omega
    · rw [c3, b3, a3, List.map_cons, List.sum_cons]
      unfold hourQ
      omega
theorem hour_price {h : Harbour} {q : Ship × Mv} (sk : SOk q.1) (o : OwnOk h q.1 q.2) (t : Nat) : hourQ t q = priceNow (t : Int) q := by
  obtain ⟨s, f, b, u⟩ := q
  have e1 := o.early; have e2 := o.stay; have e3 := o.b0
  have e8 := sk.t0
  dsimp only at e1 e2 e3 e8
  have ns : ∀ x : Int, ((b, x) : Place) ≠ SEA := fun x z => by
    have := congrArg Prod.fst z
    simp only [SEA] at this
    omega
  have ng : ∀ x : Int, ((b, x) : Place) ≠ GONE := fun x z => by
    have := congrArg Prod.fst z
    simp only [GONE] at this
    omega
  have gs : GONE ≠ SEA := by decide
  unfold hourQ priceNow priceOfHour placeBehind
  dsimp only
  by_cases c1 : (t : Int) < f
  · rw [if_pos (show (t : Int) + 1 ≤ f by omega), if_pos rfl]
    rw [if_neg (show ¬ (f + s.stay + 1 ≤ (t : Int) ∧ (t : Int) < u) by omega), Int.add_zero]
    by_cases d : s.ready ≤ (t : Int)
    · rw [if_pos d, if_pos ⟨d, c1⟩]
    · rw [if_neg d, if_neg (by omega)]
  rw [if_neg (show ¬ (s.ready ≤ (t : Int) ∧ (t : Int) < f) by omega), Int.zero_add, if_neg (show ¬ (t : Int) + 1 ≤ f by omega)]
  by_cases c2 : u < (t : Int) + 1
  · rw [if_pos c2, if_neg gs, if_neg (by omega), if_neg (fun z => z.2.1 rfl)]
  rw [if_neg c2, if_neg (ns _)]
  by_cases c3 : (t : Int) = f
  · rw [if_pos (show (t : Int) ≤ f by omega), if_neg (by omega), if_neg (fun z => z.1.1 rfl)]
  rw [if_neg (show ¬ (t : Int) ≤ f by omega), if_neg (show ¬ u < (t : Int) by omega)]
  by_cases d : f + s.stay + 1 ≤ (t : Int)
  · rw [if_pos ⟨d, by omega⟩, if_pos ⟨⟨ns _, ng _⟩, ng _, by dsimp only; omega⟩]
  · rw [if_neg (by omega), if_neg (fun z => by have := z.2.2; dsimp only at this; omega)]
end TW

/-! Plain: a plan without a fault is a way. -/
namespace TW
open DL
theorem zip_behind : ∀ (ss : List Ship) (p : Plan) (t : Int), ss.zip (stateBehind ss p t) = (ss.zip p).map fun q => (q.1, placeBehind q.1 q.2 t)
  | [], _, _ => rfl
  | s :: ss, [], t => rfl
  | s :: ss, m :: p, t => by
    have := zip_behind ss p t
    unfold stateBehind at this ⊢
    rw [List.zip_cons_cons, List.map_cons, List.zip_cons_cons, this, List.map_cons]
theorem cost_zip : ∀ (ss : List Ship) (p : Plan), costOf ss p = ((ss.zip p).map costQ).sum
  | [], _ => by simp [costOf]
  | s :: ss, [] => by simp [costOf, waits]
  | s :: ss, m :: p => by
    have := cost_zip ss p
    unfold costOf waits at this ⊢
    rw [List.zip_cons_cons, List.map_cons, List.zip_cons_cons, List.map_cons, List.sum_cons, List.map_cons, List.sum_cons, this]
    rfl
theorem tugs_zip (ss : List Ship) (t : Int) : ∀ (p : Plan) (k : Nat), p.length + k = ss.length → (((p.zipIdx k).filter fun q => decide (t = q.1.1) || decide (t = q.1.2.2)).map fun q => needOf ss q.2).sum = (((ss.drop k).zip p).map (needNow t)).sum
  | [], k, _ => by simp
  | m :: p, k, h => by
    rw [List.length_cons] at h
    have ih := tugs_zip ss t p (k + 1) (by omega)
    have hk : k < ss.length := by omega
    rw [List.zipIdx_cons, List.drop_eq_getElem_cons hk, List.zip_cons_cons, List.map_cons, List.sum_cons, ← ih, List.filter_cons]
    have e : needOf ss k = ss[k].need := by
      unfold needOf
      rw [List.getD_eq_getElem?_getD, List.getElem?_eq_getElem hk]
      rfl
    by_cases c : (decide (t = m.1) || decide (t = m.2.2)) = true
    · rw [if_pos c, List.map_cons, List.sum_cons, e]
      have : needNow t (ss[k], m) = ss[k].need := by
        show b2 (decide (t = m.1) || decide (t = m.2.2)) * ss[k].need = _
        rw [c]
        exact Int.one_mul _
      rw [this]
    · rw [if_neg c]
      have : needNow t (ss[k], m) = 0 := by
        show b2 (decide (t = m.1) || decide (t = m.2.2)) * ss[k].need = _
        rw [Bool.not_eq_true] at c
        rw [c]
        exact Int.zero_mul _
      rw [this, Int.zero_add]
theorem pilots_zip (t : Int) : ∀ (ss : List Ship) (p : Plan) (k : Nat), p.length = ss.length → ((((p.zipIdx k).filter fun q => decide (t = q.1.1) || decide (t = q.1.2.2)).length : Nat) : Int) = ((ss.zip p).map (pilotNow t)).sum
  | [], [], k, _ => by simp
  | [], _ :: _, _, h => by simp at h
  | _ :: _, [], _, h => by simp at h
  | s :: ss, m :: p, k, h => by
    have ih := pilots_zip t ss p (k + 1) (by simpa using h)
    rw [List.zipIdx_cons, List.zip_cons_cons, List.map_cons, List.sum_cons, ← ih, List.filter_cons]
    by_cases c : (decide (t = m.1) || decide (t = m.2.2)) = true
    · rw [if_pos c, List.length_cons]
      have : pilotNow t (s, m) = 1 := by
        show b2 (decide (t = m.1) || decide (t = m.2.2)) = 1
        rw [c]
        rfl
      rw [this]
      omega
    · rw [if_neg c]
      have : pilotNow t (s, m) = 0 := by
        show b2 (decide (t = m.1) || decide (t = m.2.2)) = 0
        rw [Bool.not_eq_true] at c
        rw [c]
        rfl
      rw [this, Int.zero_add]
/-- what a plan without a fault keeps -/
structure Kept (h : Harbour) (ss : List Ship) (p : Plan) : Prop where
  own : ∀ q ∈ ss.zip p, OwnOk h q.1 q.2
  apart : (ss.zip p).Pairwise fun a b => share b.2 a.2 = false
  tugs : ∀ t : Int, 0 ≤ t → t ≤ h.last → ((ss.zip p).map (needNow t)).sum ≤ h.tugs
  pilots : ∀ t : Int, 0 ≤ t → t ≤ h.last → ((ss.zip p).map (pilotNow t)).sum ≤ h.pilots
theorem rng_in {b t : Int} (h0 : 0 ≤ t) (h1 : t < b) : t ∈ rng 0 b := by
  unfold rng
  exact List.mem_map.mpr ⟨t.toNat, List.mem_range.mpr (by omega), by omega⟩
theorem kept_of {h : Harbour} {ss : List Ship} {p : Plan} (hl : p.length = ss.length) (w : wrongIn h ss p = none) : Kept h ss p := by
  unfold wrongIn at w
  cases e1 : p.zipIdx.findSome? (fun p_1 => (wrongAt h ss p p_1.1 p_1.2).map fun w => (w, (p_1.2 : Int))) with
  | some y => rw [e1] at w; cases w
  | none =>
    rw [e1] at w
    cases e2 : (rng 0 (h.last + 1)).findSome? (tugsWrong h ss p) with
    | some y => simp only [e2] at w; cases w
    | none =>
      simp only [e2] at w
      rw [List.findSome?_eq_none_iff] at e1 e2 w
      have own : ∀ i (hi : i < p.length), ownWrong h (ss.getD i noShip) p[i] = none ∧ (p.take i).any (fun o => share p[i] o) = false := by
        intro i hi
        have := e1 (p[i], i) (List.mk_mem_zipIdx_iff_getElem?.mpr (List.getElem?_eq_getElem hi))
        have := Option.map_eq_none_iff.mp this
        unfold wrongAt at this
        cases o : ownWrong h (ss.getD i noShip) p[i] with
        | some x => simp only [o] at this; cases this
        | none =>
          simp only [o] at this
          refine ⟨rfl, ?_⟩
          by_cases c : (p.take i).any (fun o => share p[i] o) = true
          · rw [if_pos c] at this; cases this
          · rwa [Bool.not_eq_true] at c
      refine ⟨fun q hq => ?_, ?_, fun t h0 h1 => ?_, fun t h0 h1 => ?_⟩
      · obtain ⟨i, hi, e⟩ := List.mem_iff_getElem.mp hq
        rw [List.getElem_zip] at e
        rw [List.length_zip] at hi
        have := (own i (by omega)).1
        rw [List.getD_eq_getElem?_getD, List.getElem?_eq_getElem (show i < ss.length by omega)] at this
        rw [← e]
        exact own_ok.mp this
      · rw [List.pairwise_iff_getElem]
        intro i j hi hj hij
        rw [List.length_zip] at hi hj
        rw [List.getElem_zip, List.getElem_zip]
        have := (own j (by omega)).2
        rw [List.any_eq_false] at this
        have := this p[i] (List.mem_take_iff_getElem.mpr ⟨i, by omega, rfl⟩)
        simpa using this
      · have := e2 t (rng_in h0 (by omega))
        unfold tugsWrong at this
        have c : ¬ h.tugs < tugsAt ss p t := fun c => by rw [if_pos c] at this; cases this
        have e := tugs_zip ss t p 0 (by omega)
        rw [List.drop_zero] at e
        rw [← e]
        unfold tugsAt movers at c
        rw [List.map_map] at c
        exact Int.not_lt.mp c
      · have := w t (rng_in h0 (by omega))
        unfold pilotsWrong at this
        have c : ¬ h.pilots < ((movers p t).length : Int) := fun c => by rw [if_pos c] at this; cases this
        rw [← pilots_zip t ss p 0 hl]
        unfold movers at c
        rw [List.length_map] at c
        exact Int.not_lt.mp c
end TW

/-! Plain: a plan without a fault is a way, and so its rests and its parting are good. -/
namespace TW
open DL
theorem maxOf_ub (b : Int) : ∀ (l : List Int) (a : Int), a ≤ b → (∀ x ∈ l, x ≤ b) → l.foldl max a ≤ b
  | [], a, h, _ => h
  | y :: l, a, h, hl => by
    rw [List.foldl_cons]
    exact maxOf_ub b l _ (by have := hl y (List.mem_cons_self ..); omega) fun x hx => hl x (List.mem_cons_of_mem _ hx)
theorem map_const : ∀ (ss : List Ship) (p : Plan) (g : Ship × Mv → Place) (c : Place), p.length = ss.length → (∀ q ∈ ss.zip p, g q = c) → (ss.zip p).map g = ss.map fun _ => c
  | [], _, _, _, _, _ => by simp
  | s :: ss, [], _, _, h, _ => by simp at h
  | s :: ss, m :: p, g, c, h, e => by
    rw [List.zip_cons_cons, List.map_cons, List.map_cons, e (s, m) (by simp), map_const ss p g c (by simpa using h) fun q hq => e q (by rw [List.zip_cons_cons]; exact List.mem_cons_of_mem _ hq)]
theorem berthNow_some {m : Mv} {t x : Int} (h : berthNow m t = some x) : m.1 ≤ t ∧ t ≤ m.2.2 ∧ m.2.1 = x := by
  unfold berthNow at h
  split at h
  · cases h
  · split at h
    · cases h
    · cases h
      exact ⟨by omega, by omega, rfl⟩
theorem way_of {h : Harbour} (hk : HOk h) {ss : List Ship} (sk : SsOk ss) {p : Plan} (hl : p.length = ss.length) (K : Kept h ss p) : WayOf h ss p := by
  have okq : ∀ q ∈ ss.zip p, SOk q.1 ∧ OwnOk h q.1 q.2 := fun q hq => ⟨sk q.1 (List.of_mem_zip hq).1, K.own q hq⟩
  have l0 := hk.l0
  have mx := maxOf_le (p.map fun m => m.2.2) 0
  have inz : ∀ m ∈ p, ∃ s, (s, m) ∈ ss.zip p := by
    intro m hm
    obtain ⟨i, hi, e⟩ := List.mem_iff_getElem.mp hm
    refine ⟨ss[i], List.mem_iff_getElem.mpr ⟨i, by rw [List.length_zip]; omega, ?_⟩⟩
    rw [List.getElem_zip, e]
  have mu : (p.map fun m => m.2.2).foldl max 0 ≤ h.last := maxOf_ub _ _ 0 l0 fun x hx => by
    obtain ⟨m, hm, rfl⟩ := List.mem_map.mp hx
    obtain ⟨s, hs⟩ := inz m hm
    exact (K.own _ hs).late
  have fin := hc_fold (ss.zip p) (List.replicate (1 + maxOf (p.map fun m => m.2.2)).toNat 0) fun q hq => by
    obtain ⟨a, o⟩ := okq q hq
    have := mx.2 q.2.2.2 (List.mem_map.mpr ⟨q.2, (List.of_mem_zip hq).2, rfl⟩)
    have := a.r0; have := o.early; have := a.t0; have := o.stay
    rw [List.length_replicate]
    unfold maxOf
    refine ⟨by omega, by omega, by omega, by omega, by omega⟩
  obtain ⟨f1, f2, f3⟩ := fin
  have hcl : (hourCosts ss p).length = (1 + (p.map fun m => m.2.2).foldl max 0).toNat := by
    rw [List.length_replicate] at f1
    exact f1
  have m0 := mx.1
  refine ⟨fun t ht => ?_, ?_, ?_, ?_, by omega, by omega⟩
  · have g := f3 t
    have z0 : (List.replicate (1 + maxOf (p.map fun m => m.2.2)).toNat (0 : Int)).getD t 0 = 0 := by
      rw [List.getD_eq_getElem?_getD, List.getElem?_replicate]
      split <;> rfl
    rw [z0, Int.zero_add] at g
    have g' : (hourCosts ss p).getD t 0 = ((ss.zip p).map (hourQ t)).sum := g
    have e : (ss.zip p).map (hourQ t) = (ss.zip p).map (priceNow (t : Int)) := List.map_congr_left fun q hq => hour_price (okq q hq).1 (okq q hq).2 t
    rw [g', e]
    obtain ⟨r, h1, h2, h3⟩ := chain (h := h) (t := (t : Int)) (ss.zip p) [⟨[], 0, [], 0, 0⟩] ⟨[], 0, [], 0, 0⟩ (List.mem_singleton.mpr rfl) okq
      (K.apart.imp fun {a b} hs x hx hy => by
        obtain ⟨a1, a2, a3⟩ := berthNow_some hx
        obtain ⟨b1, b2, b3⟩ := berthNow_some hy
        unfold share at hs
        rw [decide_eq_true (show b.2.2.1 = a.2.2.1 by omega), decide_eq_true (show b.2.1 ≤ a.2.2.2 by omega), decide_eq_true (show a.2.1 ≤ b.2.2.2 by omega)] at hs
        cases hs)
      (fun q _ x _ z => by simp at z)
      (by have := K.tugs t (by omega) (by omega); show (0 : Int) + _ ≤ _; omega)
      (by have := K.pilots t (by omega) (by omega); show (0 : Int) + _ ≤ _; omega)
    unfold goings allRows
    rw [zip_behind]
    refine List.mem_map.mpr ⟨r, h1, ?_⟩
    rw [h2, h3]
    show (([] : State) ++ _, (0 : Int) + _) = _
    rw [List.nil_append, Int.zero_add]
    rfl
  · exact map_const ss p _ _ hl fun q hq => by
      obtain ⟨a, o⟩ := okq q hq
      have := a.r0; have := o.early
      unfold placeBehind
      rw [if_pos (by omega)]
  · exact map_const ss p _ _ hl fun q hq => by
      obtain ⟨a, o⟩ := okq q hq
      have := a.t0; have := o.late; have := o.stay
      unfold placeBehind
      rw [if_neg (by omega), if_pos (by omega)]
  · rw [cost_zip]
    have : (hourCosts ss p).sum = (List.replicate (1 + maxOf (p.map fun m => m.2.2)).toNat (0 : Int)).sum + ((ss.zip p).map costQ).sum := f2
    rw [this]
    simp
/-- a plan without a fault is good -/
theorem plan_good {h : Harbour} (hk : HOk h) {ss : List Ship} (sk : SsOk ss) {p : Plan} (hl : p.length = ss.length) (w : wrongIn h ss p = none) : PlanGood h ss p := by
  have K := kept_of hl w
  obtain ⟨r, l⟩ := (way_of hk sk hl K).good hk sk
  refine ⟨hl, fun m hm => ?_, w, r, l⟩
  obtain ⟨i, hi, e⟩ := List.mem_iff_getElem.mp hm
  have hz : (ss[i], m) ∈ ss.zip p := List.mem_iff_getElem.mpr ⟨i, by rw [List.length_zip]; omega, by rw [List.getElem_zip, e]⟩
  have o := K.own _ hz
  have a := sk ss[i] (List.getElem_mem _)
  have := a.r0; have := o.early; have := a.t0; have := o.stay; have := o.late; have := hk.l1
  dsimp only at *
  exact ⟨by omega, by omega, by omega⟩
end TW

/-! Plain: what keeps the rules has no fault. -/
namespace TW
open DL
theorem rng_mem {b t : Int} (h : t ∈ rng 0 b) : 0 ≤ t ∧ t < b := by
  unfold rng at h
  obtain ⟨i, hi, rfl⟩ := List.mem_map.mp h
  have := List.mem_range.mp hi
  omega
theorem wrong_of {h : Harbour} {ss : List Ship} {p : Plan} (hl : p.length = ss.length) (K : Kept h ss p) : wrongIn h ss p = none := by
  have hz : ∀ i (hi : i < p.length), (ss.zip p)[i]'(by rw [List.length_zip]; omega) = (ss[i]'(by omega), p[i]) := fun i hi => List.getElem_zip ..
  have e1 : p.zipIdx.findSome? (fun p_1 => (wrongAt h ss p p_1.1 p_1.2).map fun w => (w, (p_1.2 : Int))) = none := by
    rw [List.findSome?_eq_none_iff]
    rintro ⟨m, i⟩ hm
    rw [List.mk_mem_zipIdx_iff_getElem?, List.getElem?_eq_some_iff] at hm
    obtain ⟨hi, rfl⟩ := hm
    have o : ownWrong h (ss.getD i noShip) p[i] = none := by
      rw [List.getD_eq_getElem?_getD, List.getElem?_eq_getElem (show i < ss.length by omega)]
      have := K.own _ (List.getElem_mem (l := ss.zip p) (n := i) (by rw [List.length_zip]; omega))
      rw [hz i hi] at this
      exact own_ok.mpr this
    have a : (p.take i).any (fun o => share p[i] o) = false := by
      rw [List.any_eq_false]
      intro m hm
      obtain ⟨j, hj, rfl⟩ := List.mem_take_iff_getElem.mp hm
      have := (List.pairwise_iff_getElem.mp K.apart) j i (by rw [List.length_zip]; omega) (by rw [List.length_zip]; omega) (by omega)
      rw [hz j (by omega), hz i hi] at this
      rw [this]
      simp
    unfold wrongAt
    simp only [o, a]
    rfl
  have e2 : (rng 0 (h.last + 1)).findSome? (tugsWrong h ss p) = none := by
    rw [List.findSome?_eq_none_iff]
    intro t ht
    obtain ⟨h0, h1⟩ := rng_mem ht
    have k := K.tugs t h0 (by omega)
    have e := tugs_zip ss t p 0 (by omega)
    rw [List.drop_zero] at e
    rw [← e] at k
    unfold tugsWrong tugsAt movers
    rw [List.map_map]
    exact if_neg (Int.not_lt.mpr k)
  have e3 : (rng 0 (h.last + 1)).findSome? (pilotsWrong h p) = none := by
    rw [List.findSome?_eq_none_iff]
    intro t ht
    obtain ⟨h0, h1⟩ := rng_mem ht
    have k := K.pilots t h0 (by omega)
    rw [← pilots_zip t ss p 0 hl] at k
    unfold pilotsWrong movers
    rw [List.length_map]
    exact if_neg (Int.not_lt.mpr k)
  unfold wrongIn
  simp only [e1, e2, e3]
end TW

/-! Plain: what a day keeps. -/
namespace TW
open DL
structure LieOk (h : Harbour) (s : Ship) (f b : Int) : Prop where
  early : s.ready ≤ f
  b0 : 0 ≤ b
  b1 : b < (h.berths.length : Int)
  fits : s.length ≤ h.berths.getD b.toNat 0
  din : s.draught ≤ depthAt h f
def MvOk (h : Harbour) (s : Ship) (t : Int) : DMv → Prop
  | .sea => True
  | .lie f b => LieOk h s f b ∧ f ≤ t
  | .gone f b o => LieOk h s f b ∧ f + s.stay + 1 ≤ o ∧ s.draught ≤ depthAt h o ∧ o ≤ t
def Apart : DMv → DMv → Prop
  | .sea, _ => True
  | _, .sea => True
  | .lie _ b, .lie _ b' => b ≠ b'
  | .lie f b, .gone _ b' o' => b = b' → o' < f
  | .gone _ b o, .lie f' b' => b = b' → o < f'
  | .gone f b o, .gone f' b' o' => b = b' → o < f' ∨ o' < f
def dMoves (t : Int) : DMv → Bool
  | .sea => false
  | .lie f _ => decide (t = f)
  | .gone f _ o => decide (t = f) || decide (t = o)
def dNeed (t : Int) (q : Ship × DMv) : Int := b2 (dMoves t q.2) * q.1.need
def dPil (t : Int) (q : Ship × DMv) : Int := b2 (dMoves t q.2)
theorem sum_set (g : Ship × DMv → Int) : ∀ (ss : List Ship) (ms : List DMv) (i : Nat) (m : DMv) (h1 : i < ss.length) (h2 : i < ms.length), ((ss.zip (ms.set i m)).map g).sum = ((ss.zip ms).map g).sum - g (ss[i], ms[i]) + g (ss[i], m)
  | [], _, _, _, h, _ => by simp at h
  | _ :: _, [], _, _, _, h => by simp at h
  | s :: ss, x :: ms, 0, m, _, _ => by
    simp only [List.set_cons_zero, List.zip_cons_cons, List.map_cons, List.sum_cons, List.getElem_cons_zero]
    omega
  | s :: ss, x :: ms, i + 1, m, h1, h2 => by
    have := sum_set g ss ms i m (by simpa using h1) (by simpa using h2)
    simp only [List.set_cons_succ, List.zip_cons_cons, List.map_cons, List.sum_cons, List.getElem_cons_succ]
    omega
theorem minPair_mem {l : List (Int × Int)} {x : Int × Int} (h : minPair l = some x) : x ∈ l := by
  cases l with
  | nil => cases h
  | cons y l =>
    have key : ∀ (l : List (Int × Int)) (y : Int × Int), l.foldl (fun a b => if lexLt b a = true then b else a) y ∈ y :: l := by
      intro l
      induction l with
      | nil => intro y; simp
      | cons z l ih =>
        intro y
        rw [List.foldl_cons]
        have := ih (if lexLt z y = true then z else y)
        rcases List.mem_cons.mp this with e | e
        · rw [e]
          split <;> simp
        · simp [e]
    cases h
    exact key l y
theorem berth_ok {h : Harbour} {s : Ship} {taken : List Int} {b : Int} (e : berthFor h s taken = some b) : 0 ≤ b ∧ b < (h.berths.length : Int) ∧ s.length ≤ h.berths.getD b.toNat 0 ∧ b ∉ taken := by
  unfold berthFor at e
  obtain ⟨x, h1, rfl⟩ := Option.map_eq_some_iff.mp e
  have h2 := minPair_mem h1
  unfold berthRows at h2
  obtain ⟨q, h3, rfl⟩ := List.mem_map.mp h2
  obtain ⟨h4, h5⟩ := List.mem_filter.mp h3
  rw [Bool.and_eq_true, decide_eq_true_iff] at h5
  obtain ⟨h5, h6⟩ := h5
  obtain ⟨a, i⟩ := q
  rw [List.mk_mem_zipIdx_iff_getElem?, List.getElem?_eq_some_iff] at h4
  obtain ⟨hi, rfl⟩ := h4
  refine ⟨by dsimp only; omega, by dsimp only; omega, ?_, by simpa using h6⟩
  dsimp only
  rw [List.getD_eq_getElem?_getD, show ((i : Nat) : Int).toNat = i by omega, List.getElem?_eq_getElem hi]
  exact h5
end TW

/-! Plain: what an hour of a day keeps. -/
namespace TW
open DL
theorem Apart.symm {a b : DMv} (h : Apart a b) : Apart b a := by
  cases a <;> cases b <;> simp only [Apart] at h ⊢
  · exact fun e => h e.symm
  · exact fun e => h e.symm
  · exact fun e => h e.symm
  · exact fun e => (h e.symm).symm
def Held (t : Int) (taken : List Int) : DMv → Prop
  | .sea => True
  | .lie _ b => b ∈ taken
  | .gone _ b o => o = t → b ∈ taken
structure Jv (h : Harbour) (ss : List Ship) (t : Int) (d : DSt) (taken : List Int) : Prop where
  len : d.moves.length = ss.length
  own : ∀ i (h1 : i < ss.length) (h2 : i < d.moves.length), MvOk h ss[i] t d.moves[i]
  pair : ∀ i j (h1 : i < d.moves.length) (h2 : j < d.moves.length), i ≠ j → Apart d.moves[i] d.moves[j]
  tg : ∀ u, ((ss.zip d.moves).map (dNeed u)).sum ≤ max 0 h.tugs
  pi : ∀ u, ((ss.zip d.moves).map (dPil u)).sum ≤ max 0 h.pilots
  tg0 : ((ss.zip d.moves).map (dNeed t)).sum + d.tugs = h.tugs
  pi0 : ((ss.zip d.moves).map (dPil t)).sum + d.pilots = h.pilots
  pos : ∀ m ∈ d.moves, m ≠ .sea → 0 ≤ h.tugs ∧ 0 ≤ h.pilots
  tk : ∀ m ∈ d.moves, Held t taken m
theorem need_pos {ss : List Ship} (sk : SsOk ss) (ms : List DMv) (t : Int) : 0 ≤ ((ss.zip ms).map (dNeed t)).sum := by
  have : ∀ q ∈ ss.zip ms, 0 ≤ dNeed t q := fun q hq => by
    have := (sk q.1 (List.of_mem_zip hq).1).n0
    unfold dNeed b2
    split <;> omega
  revert this
  generalize ss.zip ms = L
  intro h
  induction L with
  | nil => simp
  | cons a L ih =>
    rw [List.map_cons, List.sum_cons]
    have := h a (by simp)
    have := ih fun q hq => h q (List.mem_cons_of_mem _ hq)
    omega
theorem pil_pos (ss : List Ship) (ms : List DMv) (t : Int) : 0 ≤ ((ss.zip ms).map (dPil t)).sum := by
  generalize ss.zip ms = L
  induction L with
  | nil => simp
  | cons a L ih =>
    rw [List.map_cons, List.sum_cons]
    have : 0 ≤ dPil t a := by
      unfold dPil b2
      split <;> omega
    omega
theorem Jv.move {h : Harbour} {ss : List Ship} (sk : SsOk ss) {t : Int} {d : DSt} {taken taken' : List Int} (J : Jv h ss t d taken) {i : Nat} (h1 : i < ss.length) (h2 : i < d.moves.length) {m : DMv} (cm : canMove h ss d i t = true)
    (ok : MvOk h ss[i] t m) (ap : ∀ j (h3 : j < d.moves.length), j ≠ i → Apart m d.moves[j]) (old : ∀ u, u ≠ t → dMoves u m = dMoves u d.moves[i]) (n0 : dMoves t d.moves[i] = false) (n1 : dMoves t m = true) (sub : ∀ x ∈ taken, x ∈ taken') (hd : Held t taken' m) : Jv h ss t (moveAs ss d i m) taken' := by
  have eS : ss.getD i noShip = ss[i] := by rw [List.getD_eq_getElem?_getD, List.getElem?_eq_getElem h1]; rfl
  unfold canMove at cm
  rw [Bool.and_eq_true, Bool.and_eq_true, decide_eq_true_iff, decide_eq_true_iff, decide_eq_true_iff, eS] at cm
  obtain ⟨c1, c2, c3⟩ := cm
  have a1 := fun u => sum_set (dNeed u) ss d.moves i m h1 h2
  have a2 := fun u => sum_set (dPil u) ss d.moves i m h1 h2
  have b1 : ∀ u, u ≠ t → dNeed u (ss[i], m) = dNeed u (ss[i], d.moves[i]) := fun u hu => by simp only [dNeed, old u hu]
  have b2' : ∀ u, u ≠ t → dPil u (ss[i], m) = dPil u (ss[i], d.moves[i]) := fun u hu => by simp only [dPil, old u hu]
  have b3 : dNeed t (ss[i], m) = ss[i].need := by simp only [dNeed, n1, b2]; simp
  have b4 : dNeed t (ss[i], d.moves[i]) = 0 := by simp only [dNeed, n0, b2]; simp
  have b5 : dPil t (ss[i], m) = 1 := by simp only [dPil, n1, b2]; simp
  have b6 : dPil t (ss[i], d.moves[i]) = 0 := by simp only [dPil, n0, b2]; simp
  have p1 := need_pos sk d.moves t
  have p2 := pil_pos ss d.moves t
  have p3 := (sk ss[i] (List.getElem_mem _)).n0
  have t0 := J.tg0
  have q0 := J.pi0
  have mem : ∀ x ∈ d.moves.set i m, x ∈ d.moves ∨ x = m := fun x hx => List.mem_or_eq_of_mem_set hx
  refine ⟨by show (d.moves.set i m).length = _; rw [List.length_set]; exact J.len, fun j g1 g2 => ?_, fun j k g1 g2 hjk => ?_, fun u => ?_, fun u => ?_, ?_, ?_, fun x hx hs => ?_, fun x hx => ?_⟩
  · have g3 : j < (d.moves.set i m).length := g2
    show MvOk h ss[j] t ((d.moves.set i m)[j]'g3)
    rw [List.getElem_set]
    by_cases e : i = j
    · subst e
      rw [if_pos rfl]
      exact ok
    · rw [if_neg e]
      exact J.own j g1 _
  · have g3 : j < (d.moves.set i m).length := g1
    have g4 : k < (d.moves.set i m).length := g2
    show Apart ((d.moves.set i m)[j]'g3) ((d.moves.set i m)[k]'g4)
    have g1' : j < d.moves.length := by have := g1; simp only [moveAs, List.length_set] at this; exact this
    have g2' : k < d.moves.length := by have := g2; simp only [moveAs, List.length_set] at this; exact this
    rw [List.getElem_set, List.getElem_set]
    by_cases e : i = j
    · subst e
      rw [if_pos rfl, if_neg hjk]
      exact ap k g2' (fun z => hjk z.symm)
    · rw [if_neg e]
      by_cases e2 : i = k
      · subst e2
        rw [if_pos rfl]
        exact (ap j g1' hjk).symm
      · rw [if_neg e2]
        exact J.pair j k g1' g2' hjk
  · show ((ss.zip (d.moves.set i m)).map (dNeed u)).sum ≤ _
    rw [a1]
    by_cases e : u = t
    · subst e
      omega
    · rw [b1 u e]
      have := J.tg u
      omega
  · show ((ss.zip (d.moves.set i m)).map (dPil u)).sum ≤ _
    rw [a2]
    by_cases e : u = t
    · subst e
      omega
    · rw [b2' u e]
      have := J.pi u
      omega
  · show ((ss.zip (d.moves.set i m)).map (dNeed t)).sum + (d.tugs - (ss.getD i noShip).need) = _
    rw [a1, eS]
    omega
  · show ((ss.zip (d.moves.set i m)).map (dPil t)).sum + (d.pilots - 1) = _
    rw [a2]
    omega
  · omega
  · rcases mem x hx with g | g
    · have := J.tk x g
      cases x with
      | sea => trivial
      | lie f b => exact sub _ this
      | gone f b o => exact fun z => sub _ (this z)
    · subst g
      exact hd
end TW

/-! Plain: going out and coming in keep the day's rules. -/
namespace TW
open DL
theorem get_sea {ms : List DMv} {i : Nat} {m : DMv} (h : ms.getD i .sea = m) (hm : m ≠ .sea) : ∃ h2 : i < ms.length, ms[i] = m := by
  rw [List.getD_eq_getElem?_getD] at h
  by_cases c : i < ms.length
  · rw [List.getElem?_eq_getElem c] at h
    exact ⟨c, h⟩
  · rw [List.getElem?_eq_none (by omega)] at h
    exact absurd h.symm hm
theorem Jv.out {h : Harbour} {ss : List Ship} (sk : SsOk ss) {t : Int} {d : DSt} {taken : List Int} (J : Jv h ss t d taken) (i : Nat) : Jv h ss t (outStep h ss t d i) taken := by
  unfold outStep
  cases e : d.moves.getD i .sea with
  | sea => exact J
  | gone f b o => exact J
  | lie f b =>
    show Jv h ss t (if (decide (f + 1 + (ss.getD i noShip).stay ≤ t) && canMove h ss d i t) = true then moveAs ss d i (.gone f b t) else d) taken
    by_cases c : (decide (f + 1 + (ss.getD i noShip).stay ≤ t) && canMove h ss d i t) = true
    · rw [if_pos c]
      rw [Bool.and_eq_true, decide_eq_true_iff] at c
      obtain ⟨h2, e2⟩ := get_sea e (by simp)
      have h1 : i < ss.length := by have := J.len; omega
      have eS : ss.getD i noShip = ss[i] := by rw [List.getD_eq_getElem?_getD, List.getElem?_eq_getElem h1]; rfl
      have c1 := c.1
      rw [eS] at c1
      have st := (sk ss[i] (List.getElem_mem _)).t0
      have ow := J.own i h1 h2
      rw [e2] at ow
      have dr : ss[i].draught ≤ depthAt h t := by
        have := c.2
        unfold canMove at this
        rw [Bool.and_eq_true, decide_eq_true_iff, eS] at this
        exact this.1
      refine J.move sk h1 h2 c.2 ⟨ow.1, by omega, dr, Int.le_refl t⟩ (fun j h3 hj => ?_) (fun u hu => ?_) ?_ ?_ (fun x hx => hx) (fun _ => ?_)
      · have := J.pair i j h2 h3 (fun z => hj z.symm)
        rw [e2] at this
        revert this
        cases d.moves[j] with
        | sea => intro _; trivial
        | lie f' b' => intro z w; exact absurd w z
        | gone f' b' o' => intro z w; exact .inr (z w)
      · rw [e2]
        show (decide (u = f) || decide (u = t)) = decide (u = f)
        rw [decide_eq_false hu, Bool.or_false]
      · rw [e2]
        exact decide_eq_false (by omega)
      · show (decide (t = f) || decide (t = t)) = true
        simp
      · have := J.tk d.moves[i] (List.getElem_mem _)
        rw [e2] at this
        exact this
    · rw [if_neg c]
      exact J
theorem Jv.outs {h : Harbour} {ss : List Ship} (sk : SsOk ss) {t : Int} {taken : List Int} : ∀ (l : List Nat) {d : DSt}, Jv h ss t d taken → Jv h ss t (l.foldl (outStep h ss t) d) taken
  | [], _, J => J
  | i :: l, _, J => Jv.outs sk l (J.out sk i)
theorem Jv.inn {h : Harbour} {ss : List Ship} (sk : SsOk ss) {t : Int} {q : DSt × List Int} (J : Jv h ss t q.1 q.2) {i : Nat} (h1 : i < ss.length) : Jv h ss t (inStep h ss t q i).1 (inStep h ss t q i).2 := by
  unfold inStep
  by_cases c : (isSea (q.1.moves.getD i .sea) && (decide ((ss.getD i noShip).ready ≤ t) && canMove h ss q.1 i t)) = true
  · rw [if_pos c]
    cases e : berthFor h (ss.getD i noShip) q.2 with
    | none => exact J
    | some b =>
      rw [Bool.and_eq_true, Bool.and_eq_true, decide_eq_true_iff] at c
      have eS : ss.getD i noShip = ss[i] := by rw [List.getD_eq_getElem?_getD, List.getElem?_eq_getElem h1]; rfl
      have h2 : i < q.1.moves.length := by have := J.len; omega
      have e2 : q.1.moves[i] = .sea := by
        have := c.1
        rw [List.getD_eq_getElem?_getD, List.getElem?_eq_getElem h2] at this
        revert this
        show isSea q.1.moves[i] = true → _
        cases q.1.moves[i] <;> simp [isSea]
      have dr : ss[i].draught ≤ depthAt h t := by
        have := c.2.2
        unfold canMove at this
        rw [Bool.and_eq_true, decide_eq_true_iff, eS] at this
        exact this.1
      obtain ⟨b0, b1, b2, b3⟩ := berth_ok e
      rw [eS] at b2
      have cr := c.2.1
      rw [eS] at cr
      show Jv h ss t (moveAs ss q.1 i (.lie t b)) (q.2 ++ [b])
      refine J.move sk h1 h2 c.2.2 ⟨⟨cr, b0, b1, b2, dr⟩, Int.le_refl t⟩ (fun j h3 hj => ?_) (fun u hu => ?_) ?_ ?_ (fun x hx => List.mem_append.mpr (.inl hx)) (List.mem_append.mpr (.inr (List.mem_singleton.mpr rfl)))
      · have tk := J.tk q.1.moves[j] (List.getElem_mem _)
        have ow := J.own j (by have := J.len; omega) h3
        revert tk ow
        cases q.1.moves[j] with
        | sea => intro _ _; trivial
        | lie f' b' => intro tk _ w; subst w; exact b3 tk
        | gone f' b' o' =>
          intro tk ow w
          subst w
          have o1 := ow.2.2.2
          by_cases z : o' = t
          · exact absurd (tk z) b3
          · omega
      · rw [e2]
        exact decide_eq_false hu
      · rw [e2]
        rfl
      · exact decide_eq_true rfl
  · rw [if_neg c]
    exact J
theorem Jv.inns {h : Harbour} {ss : List Ship} (sk : SsOk ss) {t : Int} : ∀ (l : List Nat) {q : DSt × List Int}, (∀ i ∈ l, i < ss.length) → Jv h ss t q.1 q.2 → Jv h ss t (l.foldl (inStep h ss t) q).1 (l.foldl (inStep h ss t) q).2
  | [], _, _, J => J
  | i :: l, _, hl, J => Jv.inns sk l (fun j hj => hl j (List.mem_cons_of_mem _ hj)) (J.inn sk (hl i (List.mem_cons_self ..)))
end TW

/-! Plain: the plans of a day keep the rules. -/
namespace TW
open DL
/-- ahead of hour t -/
structure Dv (h : Harbour) (ss : List Ship) (t : Int) (ms : List DMv) : Prop where
  len : ms.length = ss.length
  own : ∀ i (h1 : i < ss.length) (h2 : i < ms.length), MvOk h ss[i] (t - 1) ms[i]
  pair : ∀ i j (h1 : i < ms.length) (h2 : j < ms.length), i ≠ j → Apart ms[i] ms[j]
  tg : ∀ u, ((ss.zip ms).map (dNeed u)).sum ≤ max 0 h.tugs
  pi : ∀ u, ((ss.zip ms).map (dPil u)).sum ≤ max 0 h.pilots
  pos : ∀ m ∈ ms, m ≠ .sea → 0 ≤ h.tugs ∧ 0 ≤ h.pilots
theorem Jv.end {h : Harbour} {ss : List Ship} {t : Int} {d : DSt} {taken : List Int} (J : Jv h ss t d taken) : Dv h ss (t + 1) d.moves :=
  ⟨J.len, fun i h1 h2 => by rw [Int.add_sub_cancel]; exact J.own i h1 h2, J.pair, J.tg, J.pi, J.pos⟩
theorem still {h : Harbour} {s : Ship} (sk : SOk s) {t : Int} {m : DMv} (o : MvOk h s (t - 1) m) : dMoves t m = false := by
  cases m with
  | sea => rfl
  | lie f b =>
    have := o.2
    exact decide_eq_false (by omega)
  | gone f b u =>
    have := o.2.2.2; have := o.2.1; have := sk.t0
    show (decide (t = f) || decide (t = u)) = false
    rw [decide_eq_false (by omega), decide_eq_false (by omega)]
    rfl
theorem sum_zero {α : Type} (g : α → Int) : ∀ L : List α, (∀ q ∈ L, g q = 0) → (L.map g).sum = 0
  | [], _ => rfl
  | a :: L, h => by
    rw [List.map_cons, List.sum_cons, h a (List.mem_cons_self ..), sum_zero g L fun q hq => h q (List.mem_cons_of_mem _ hq)]
    rfl
theorem Dv.begin {h : Harbour} {ss : List Ship} (sk : SsOk ss) {t : Int} {ms : List DMv} (D : Dv h ss t ms) : Jv h ss t ⟨ms, h.tugs, h.pilots⟩ (takenOf ms) := by
  have st : ∀ q ∈ ss.zip ms, dMoves t q.2 = false := by
    intro q hq
    obtain ⟨i, hi, e⟩ := List.mem_iff_getElem.mp hq
    rw [List.length_zip] at hi
    rw [List.getElem_zip] at e
    rw [← e]
    exact still (sk ss[i] (List.getElem_mem _)) (D.own i (by omega) (by omega))
  refine ⟨D.len, fun i h1 h2 => ?_, D.pair, D.tg, D.pi, ?_, ?_, D.pos, fun m hm => ?_⟩
  · have := D.own i h1 h2
    show MvOk h ss[i] t ms[i]
    revert this
    cases ms[i] with
    | sea => exact fun z => z
    | lie f b => exact fun z => ⟨z.1, by have := z.2; omega⟩
    | gone f b o => exact fun z => ⟨z.1, z.2.1, z.2.2.1, by have := z.2.2.2; omega⟩
  · show ((ss.zip ms).map (dNeed t)).sum + h.tugs = h.tugs
    rw [sum_zero _ _ fun q hq => by simp only [dNeed, st q hq, b2]; simp]
    omega
  · show ((ss.zip ms).map (dPil t)).sum + h.pilots = h.pilots
    rw [sum_zero _ _ fun q hq => by simp only [dPil, st q hq, b2]; simp]
    omega
  · obtain ⟨i, hi, e⟩ := List.mem_iff_getElem.mp hm
    have hi : i < ms.length := hi
    have e : ms[i] = m := e
    cases m with
    | sea => trivial
    | lie f b =>
      show b ∈ takenOf ms
      unfold takenOf lyingOf
      refine List.mem_map.mpr ⟨i, List.mem_map.mpr ⟨(.lie f b, i), List.mem_filter.mpr ⟨List.mk_mem_zipIdx_iff_getElem?.mpr (by rw [List.getElem?_eq_getElem hi, e]), rfl⟩, rfl⟩, ?_⟩
      rw [List.getD_eq_getElem?_getD, List.getElem?_eq_getElem hi, e]
      rfl
    | gone f b o =>
      intro z
      have := D.own i (by have := D.len; omega) hi
      rw [e] at this
      have := this.2.2.2
      omega
theorem Dv.hour {h : Harbour} {ss : List Ship} (sk : SsOk ss) {o : List Nat} (ho : ∀ i ∈ o, i < ss.length) {t : Int} {d : DSt} (D : Dv h ss t d.moves) : Dv h ss (t + 1) (hourStep h ss o d t).moves :=
  (Jv.inns sk o (q := (goOut h ss t ⟨d.moves, h.tugs, h.pilots⟩, takenOf d.moves)) ho (Jv.outs sk _ (D.begin sk))).end
theorem Dv.hours {h : Harbour} {ss : List Ship} (sk : SsOk ss) {o : List Nat} (ho : ∀ i ∈ o, i < ss.length) : ∀ (n i : Nat) {d : DSt}, Dv h ss (i : Int) d.moves → Dv h ss ((i + n : Nat) : Int) ((hrs i n).foldl (hourStep h ss o) d).moves
  | 0, i, d, D => D
  | n + 1, i, d, D => by
    have e : hrs i (n + 1) = (i : Int) :: hrs (i + 1) n := by
      unfold hrs
      rw [List.range'_succ]
      rfl
    rw [e, List.foldl_cons]
    have := Dv.hours sk ho n (i + 1) (d := hourStep h ss o d i) (D.hour sk ho)
    rwa [show i + 1 + n = i + (n + 1) by omega] at this
end TW

/-! Plain: the plan of a day is good. -/
namespace TW
open DL
def goneD (m : Mv) : DMv := .gone m.1 m.2.1 m.2.2
theorem all_gone : ∀ ms : List DMv, ms.all (fun m => (goneOf m).isSome) = true → ms = (ms.filterMap goneOf).map goneD
  | [], _ => rfl
  | m :: ms, h => by
    rw [List.all_cons, Bool.and_eq_true] at h
    have ih := all_gone ms h.2
    cases m with
    | sea => cases h.1
    | lie f b => cases h.1
    | gone f b o =>
      rw [List.filterMap_cons]
      show _ = goneD (f, b, o) :: (ms.filterMap goneOf).map goneD
      rw [← ih]
      rfl
theorem Dv.start (h : Harbour) {ss : List Ship} : Dv h ss ((0 : Nat) : Int) (ss.map fun _ => DMv.sea) := by
  have g : ∀ i (h2 : i < (ss.map fun _ => DMv.sea).length), (ss.map fun _ => DMv.sea)[i] = .sea := fun i h2 => List.getElem_map ..
  have z : ∀ q ∈ ss.zip (ss.map fun _ => DMv.sea), q.2 = .sea := fun q hq => by
    obtain ⟨s, _, e⟩ := List.mem_map.mp (List.of_mem_zip hq).2
    exact e.symm
  refine ⟨List.length_map _, fun i h1 h2 => ?_, fun i j h1 h2 _ => ?_, fun u => ?_, fun u => ?_, fun m hm hs => ?_⟩
  · rw [g]
    trivial
  · rw [g]
    trivial
  · rw [sum_zero _ _ fun q hq => by simp only [dNeed, z q hq, dMoves, b2]; simp]
    omega
  · rw [sum_zero _ _ fun q hq => by simp only [dPil, z q hq, dMoves, b2]; simp]
    omega
  · obtain ⟨s, _, e⟩ := List.mem_map.mp hm
    exact absurd e.symm hs
theorem zip_map_r {α β γ : Type} (f : β → γ) : ∀ (a : List α) (b : List β), a.zip (b.map f) = (a.zip b).map fun q => (q.1, f q.2)
  | [], _ => rfl
  | _ :: _, [] => rfl
  | x :: a, y :: b => by
    rw [List.map_cons, List.zip_cons_cons, List.zip_cons_cons, List.map_cons, zip_map_r f a b]
theorem day_kept {h : Harbour} (hk : HOk h) {ss : List Ship} (sk : SsOk ss) (n1 : 1 ≤ ss.length) {o : List Nat} (ho : ∀ i ∈ o, i < ss.length) {p : Plan} (e : planBy h ss o = some p) : p.length = ss.length ∧ Kept h ss p := by
  unfold planBy at e
  by_cases c : (dayEnd h ss o).moves.all (fun m => (goneOf m).isSome) = true
  · rw [if_pos c] at e
    have D : Dv h ss ((0 + (h.last + 1).toNat : Nat) : Int) (dayEnd h ss o).moves := by
      unfold dayEnd
      rw [rng_hrs]
      exact Dv.hours sk ho _ 0 (d := ⟨ss.map fun _ => .sea, 0, 0⟩) (Dv.start h)
    have ms := all_gone _ c
    cases e
    generalize (dayEnd h ss o).moves.filterMap goneOf = p at ms ⊢
    rw [ms] at D
    have hl : p.length = ss.length := by have := D.len; rwa [List.length_map] at this
    have l0 := hk.l0
    have hp : 0 ≤ h.tugs ∧ 0 ≤ h.pilots := by
      cases p with
      | nil => rw [List.length_nil] at hl; omega
      | cons m p => exact D.pos (goneD m) (by simp) (by simp [goneD])
    have own : ∀ i (h1 : i < ss.length) (h2 : i < p.length), OwnOk h ss[i] p[i] := by
      intro i h1 h2
      have := D.own i h1 (by rw [List.length_map]; exact h2)
      rw [List.getElem_map] at this
      obtain ⟨a, b, c, d⟩ := this
      exact ⟨a.early, by omega, by omega, a.b0, a.b1, a.fits, a.din, c⟩
    have key : ∀ (t : Int) (q : Ship × Mv), dMoves t (goneD q.2) = movesNow q.2 t := fun t q => rfl
    refine ⟨hl, ⟨fun q hq => ?_, ?_, fun t _ _ => ?_, fun t _ _ => ?_⟩⟩
    · obtain ⟨i, hi, e⟩ := List.mem_iff_getElem.mp hq
      rw [List.length_zip] at hi
      rw [List.getElem_zip] at e
      rw [← e]
      exact own i (by omega) (by omega)
    · rw [List.pairwise_iff_getElem]
      intro i j hi hj hij
      rw [List.length_zip] at hi hj
      rw [List.getElem_zip, List.getElem_zip]
      have a := D.pair i j (by rw [List.length_map]; omega) (by rw [List.length_map]; omega) (by omega)
      rw [List.getElem_map, List.getElem_map] at a
      show share p[j] p[i] = false
      unfold share
      by_cases w : p[j].2.1 = p[i].2.1
      · have a := a w.symm
        rw [decide_eq_true w, Bool.true_and, Bool.and_eq_false_iff, decide_eq_false_iff_not, decide_eq_false_iff_not]
        rcases a with a | a
        · exact .inl (by omega)
        · exact .inr (by omega)
      · rw [decide_eq_false w]
        rfl
    · have := D.tg t
      rw [zip_map_r, List.map_map] at this
      have e : (ss.zip p).map (dNeed t ∘ fun q => (q.1, goneD q.2)) = (ss.zip p).map (needNow t) := rfl
      rw [e] at this
      omega
    · have := D.pi t
      rw [zip_map_r, List.map_map] at this
      have e : (ss.zip p).map (dPil t ∘ fun q => (q.1, goneD q.2)) = (ss.zip p).map (pilotNow t) := rfl
      rw [e] at this
      omega
  · rw [if_neg c] at e
    cases e
/-- the field pl of Good -/
theorem day_good {h : Harbour} (hk : HOk h) {ss : List Ship} (sk : SsOk ss) (n1 : 1 ≤ ss.length) (o : List Nat) (p : Plan) (ho : ∀ i ∈ o, i < ss.length) (e : planBy h ss o = some p) : PlanGood h ss p := by
  obtain ⟨hl, K⟩ := day_kept hk sk n1 ho e
  exact plan_good hk sk hl (wrong_of hl K)
end TW

/-! Plain: a ship alone. -/
namespace TW
open DL
theorem rng_iff {a b t : Int} : t ∈ rng a b ↔ a ≤ t ∧ t < b := by
  unfold rng
  rw [List.mem_map]
  constructor
  · rintro ⟨i, hi, rfl⟩
    have := List.mem_range.mp hi
    omega
  · rintro ⟨h0, h1⟩
    exact ⟨(t - a).toNat, List.mem_range.mpr (by omega), by omega⟩
theorem rng_sorted (a b : Int) : (rng a b).Pairwise (· < ·) := by
  unfold rng
  rw [List.pairwise_map]
  exact List.pairwise_lt_range.imp fun h => by omega
/-- hours that a ship alone can go by -/
structure GoodHours (h : Harbour) (s : Ship) (f o : Int) : Prop where
  need : s.need ≤ h.tugs
  fits : s.length ≤ maxOf h.berths
  f0 : 0 ≤ f
  early : s.ready ≤ f
  stay : f + s.stay + 1 ≤ o
  late : o ≤ h.last
  din : s.draught ≤ depthAt h f
  dout : s.draught ≤ depthAt h o
theorem deep_iff {h : Harbour} {s : Ship} {t : Int} : t ∈ deepOf h s ↔ 0 ≤ t ∧ t ≤ h.last ∧ s.draught ≤ depthAt h t := by
  unfold deepOf
  rw [List.mem_filter, rng_iff, decide_eq_true_iff]
  omega
theorem hours_iff {h : Harbour} {s : Ship} (sk : SOk s) {q : Int × Int} : q ∈ lawHours h s ↔ GoodHours h s q.1 q.2 := by
  have t0 := sk.t0
  obtain ⟨f, o⟩ := q
  unfold lawHours
  by_cases c : h.tugs < s.need ∨ maxOf h.berths < s.length
  · rw [if_pos c]
    constructor
    · intro z; simp at z
    · intro z
      have := z.need; have := z.fits
      omega
  · rw [if_neg c, List.mem_flatMap]
    constructor
    · rintro ⟨f', hf, hq⟩
      obtain ⟨o', ho, e⟩ := List.mem_map.mp hq
      cases e
      obtain ⟨ho, hc⟩ := List.mem_filter.mp ho
      rw [Bool.and_eq_true, decide_eq_true_iff, decide_eq_true_iff] at hc
      obtain ⟨a1, a2, a3⟩ := deep_iff.mp hf
      obtain ⟨b1, b2, b3⟩ := deep_iff.mp ho
      exact ⟨by omega, by omega, a1, hc.1, by show f + s.stay + 1 ≤ o; omega, b2, a3, b3⟩
    · rintro ⟨a1, a2, a3, a4, a5, a6, a7, a8⟩
      dsimp only at *
      refine ⟨f, deep_iff.mpr ⟨a3, by omega, a7⟩, List.mem_map.mpr ⟨o, List.mem_filter.mpr ⟨deep_iff.mpr ⟨by omega, a6, a8⟩, ?_⟩, rfl⟩⟩
      rw [Bool.and_eq_true, decide_eq_true_iff, decide_eq_true_iff]
      exact ⟨a4, by omega⟩
/-- first by the first hour, then by the other -/
def LeI (a b : Int × Int) : Prop := a.1 < b.1 ∨ a.1 = b.1 ∧ a.2 ≤ b.2
theorem minE_spec : ∀ (xs : List (Int × Int)) (x : Int × Int), minE ltI x xs ∈ x :: xs ∧ ∀ y ∈ x :: xs, LeI (minE ltI x xs) y
  | [], x => ⟨List.mem_cons_self .., fun y hy => by
    rw [List.mem_singleton] at hy
    subst hy
    exact .inr ⟨rfl, Int.le_refl _⟩⟩
  | z :: xs, x => by
    have e : minE ltI x (z :: xs) = minE ltI (if ltI z x = true then z else x) xs := by
      unfold minE
      rw [List.foldl_cons]
    rw [e]
    by_cases c : ltI z x = true
    · rw [if_pos c]
      obtain ⟨h1, h2⟩ := minE_spec xs z
      refine ⟨List.mem_cons_of_mem _ h1, fun y hy => ?_⟩
      rcases List.mem_cons.mp hy with e | hy
      · subst e
        have := h2 z (List.mem_cons_self ..)
        unfold ltI at c
        rw [decide_eq_true_iff] at c
        unfold LeI at this ⊢
        omega
      · exact h2 y hy
    · rw [if_neg c]
      obtain ⟨h1, h2⟩ := minE_spec xs x
      refine ⟨?_, fun y hy => ?_⟩
      · rcases List.mem_cons.mp h1 with e | h1
        · rw [e]; simp
        · simp [h1]
      · rcases List.mem_cons.mp hy with e | hy
        · subst e
          exact h2 _ (List.mem_cons_self ..)
        · rcases List.mem_cons.mp hy with e | hy
          · subst e
            have := h2 x (List.mem_cons_self ..)
            unfold ltI at c
            rw [decide_eq_true_iff] at c
            unfold LeI at this ⊢
            omega
          · exact h2 y (List.mem_cons_of_mem _ hy)
theorem minE_eq {x q : Int × Int} {xs : List (Int × Int)} (h1 : q ∈ x :: xs) (h2 : ∀ y ∈ x :: xs, LeI q y) : q = minE ltI x xs := by
  obtain ⟨a, b⟩ := minE_spec xs x
  have := h2 _ a
  have := b _ h1
  unfold LeI at *
  exact Prod.ext (by omega) (by omega)
theorem berth_some {h : Harbour} (hk : HOk h) (hb : ∀ b ∈ h.berths, 0 ≤ b) {s : Ship} : (berthFor h s []).isSome = true ↔ s.length ≤ maxOf h.berths := by
  have mx := maxOf_le h.berths 0
  constructor
  · intro z
    obtain ⟨b, e⟩ := Option.isSome_iff_exists.mp z
    obtain ⟨b0, b1, b2, _⟩ := berth_ok e
    have : h.berths.getD b.toNat 0 ∈ h.berths := by
      rw [List.getD_eq_getElem?_getD, List.getElem?_eq_getElem (show b.toNat < h.berths.length by omega)]
      exact List.getElem_mem _
    have := mx.2 _ this
    unfold maxOf
    omega
  · intro z
    have hm : ∃ x ∈ h.berths, s.length ≤ x := by
      have z : s.length ≤ h.berths.foldl max 0 := z
      rcases maxOf_mem h.berths 0 with e | e
      · obtain ⟨x, hx⟩ := List.exists_mem_of_ne_nil _ hk.b0
        exact ⟨x, hx, by have := hb x hx; omega⟩
      · exact ⟨_, e, z⟩
    obtain ⟨x, hx, hl⟩ := hm
    obtain ⟨i, hi, e⟩ := List.mem_iff_getElem.mp hx
    have hr : (x, (i : Int)) ∈ berthRows h s [] := by
      unfold berthRows
      refine List.mem_map.mpr ⟨(x, i), List.mem_filter.mpr ⟨List.mk_mem_zipIdx_iff_getElem?.mpr (by rw [List.getElem?_eq_getElem hi, e]), ?_⟩, rfl⟩
      simp [hl]
    unfold berthFor
    cases hB : berthRows h s [] with
    | nil => rw [hB] at hr; simp at hr
    | cons y ys => rfl
theorem alone_plan {h : Harbour} (hk : HOk h) (hb : ∀ b ∈ h.berths, 0 ≤ b) (hp : 1 ≤ h.pilots) {s : Ship} (sk : SOk s) {f b o : Int} : isPlan h [s] [(f, b, o)] = true ↔ GoodHours h s f o ∧ 0 ≤ b ∧ b < (h.berths.length : Int) ∧ s.length ≤ h.berths.getD b.toNat 0 := by
  have n0 := sk.n0; have r0 := sk.r0; have t0 := sk.t0
  unfold isPlan
  rw [Option.isNone_iff_eq_none]
  constructor
  · intro z
    have K := kept_of (by rfl) z
    obtain ⟨a1, a2, a3, a4, a5, a6, a7, a8⟩ := K.own (s, (f, b, o)) (List.mem_cons_self ..)
    dsimp only at *
    have nd := K.tugs f (by omega) (by omega)
    have e : (([s].zip [(f, b, o)]).map (needNow f)).sum = s.need := by
      show b2 (decide (f = f) || decide (f = o)) * s.need + 0 = s.need
      rw [decide_eq_true rfl, Bool.true_or, Int.add_zero]
      exact Int.one_mul _
    rw [e] at nd
    refine ⟨⟨nd, ?_, by omega, a1, by omega, a3, a7, a8⟩, a4, a5, a6⟩
    have mx := maxOf_le h.berths 0
    have : h.berths.getD b.toNat 0 ∈ h.berths := by
      rw [List.getD_eq_getElem?_getD, List.getElem?_eq_getElem (show b.toNat < h.berths.length by omega)]
      exact List.getElem_mem _
    have := mx.2 _ this
    unfold maxOf
    omega
  · rintro ⟨G, a4, a5, a6⟩
    have g1 := G.need; have g2 := G.f0; have g3 := G.stay
    refine wrong_of (by rfl) ⟨fun q hq => ?_, List.pairwise_singleton _ _, fun t _ _ => ?_, fun t _ _ => ?_⟩
    · have : q = (s, (f, b, o)) := List.mem_singleton.mp hq
      subst this
      exact ⟨G.early, by show f + s.stay + 1 ≤ o; omega, G.late, a4, a5, a6, G.din, G.dout⟩
    · show b2 (decide (t = f) || decide (t = o)) * s.need + 0 ≤ h.tugs
      cases (decide (t = f) || decide (t = o)) with
      | true => show 1 * s.need + 0 ≤ _; omega
      | false => show 0 * s.need + 0 ≤ _; omega
    · show b2 (decide (t = f) || decide (t = o)) + 0 ≤ h.pilots
      cases (decide (t = f) || decide (t = o)) with
      | true => show 1 + 0 ≤ _; omega
      | false => show 0 + 0 ≤ _; omega
theorem plans_mem {h : Harbour} {s : Ship} {m : Mv} : m ∈ plansAlone h s ↔ (s.ready ≤ m.1 ∧ m.1 ≤ h.last) ∧ (m.1 + s.stay + 1 ≤ m.2.2 ∧ m.2.2 ≤ h.last) ∧ (0 ≤ m.2.1 ∧ m.2.1 < (h.berths.length : Int)) ∧ isPlan h [s] [m] = true := by
  unfold plansAlone
  simp only [List.mem_flatMap, rng_iff]
  constructor
  · rintro ⟨f, hf, o, ho, b, hb, z⟩
    by_cases c : isPlan h [s] [(f, b, o)] = true
    · rw [if_pos c, List.mem_singleton] at z
      subst z
      exact ⟨⟨hf.1, by show f ≤ h.last; omega⟩, ⟨ho.1, by show o ≤ h.last; omega⟩, hb, c⟩
    · rw [if_neg c] at z
      simp at z
  · rintro ⟨hf, ho, hb, c⟩
    obtain ⟨f, b, o⟩ := m
    dsimp only at *
    refine ⟨f, by omega, o, by omega, b, hb, ?_⟩
    rw [if_pos c]
    simp
def LeM (a b : Mv) : Prop := LeI (a.1, a.2.2) (b.1, b.2.2)
theorem flat_sorted {α : Type} {R : α → α → Prop} {l : List Int} {g : Int → List α} (hl : l.Pairwise (· < ·)) (h1 : ∀ x ∈ l, (g x).Pairwise R) (h2 : ∀ x ∈ l, ∀ y ∈ l, x < y → ∀ a ∈ g x, ∀ b ∈ g y, R a b) : (l.flatMap g).Pairwise R := by
  induction l with
  | nil => exact List.Pairwise.nil
  | cons x l ih =>
    obtain ⟨p1, p2⟩ := List.pairwise_cons.mp hl
    rw [List.flatMap_cons, List.pairwise_append]
    refine ⟨h1 x (List.mem_cons_self ..), ih p2 (fun y hy => h1 y (List.mem_cons_of_mem _ hy)) (fun y hy z hz => h2 y (List.mem_cons_of_mem _ hy) z (List.mem_cons_of_mem _ hz)), fun a ha b hb => ?_⟩
    obtain ⟨y, hy, hb⟩ := List.mem_flatMap.mp hb
    exact h2 x (List.mem_cons_self ..) y (List.mem_cons_of_mem _ hy) (p1 y hy) a ha b hb
theorem one_in {h : Harbour} {s : Ship} {f b o : Int} {a : Mv} (z : a ∈ (if isPlan h [s] [(f, b, o)] = true then [(f, b, o)] else [])) : a = (f, b, o) := by
  split at z
  · exact List.mem_singleton.mp z
  · simp at z
theorem plans_sorted (h : Harbour) (s : Ship) : (plansAlone h s).Pairwise LeM := by
  unfold plansAlone
  refine flat_sorted (rng_sorted _ _) (fun f _ => flat_sorted (rng_sorted _ _) (fun o _ => flat_sorted (rng_sorted _ _) (fun b _ => ?_) fun b _ b' _ _ a ha a' ha' => ?_) fun o _ o' _ ho a ha a' ha' => ?_) fun f _ f' _ hf a ha a' ha' => ?_
  · split
    · exact List.pairwise_singleton _ _
    · exact List.Pairwise.nil
  · rw [one_in ha, one_in ha']
    exact .inr ⟨rfl, Int.le_refl _⟩
  · obtain ⟨b, _, ha⟩ := List.mem_flatMap.mp ha
    obtain ⟨b', _, ha'⟩ := List.mem_flatMap.mp ha'
    rw [one_in ha, one_in ha']
    exact .inr ⟨rfl, Int.le_of_lt ho⟩
  · obtain ⟨o, _, ha⟩ := List.mem_flatMap.mp ha
    obtain ⟨o', _, ha'⟩ := List.mem_flatMap.mp ha'
    obtain ⟨b, _, ha⟩ := List.mem_flatMap.mp ha
    obtain ⟨b', _, ha'⟩ := List.mem_flatMap.mp ha'
    rw [one_in ha, one_in ha']
    exact .inl hf
/-- the day of one ship -/
def inOk (h : Harbour) (s : Ship) (t : Int) : Prop := s.ready ≤ t ∧ s.draught ≤ depthAt h t ∧ s.need ≤ h.tugs ∧ 0 < h.pilots
structure Came (h : Harbour) (s : Ship) (f b : Int) : Prop where
  f0 : 0 ≤ f
  ok : inOk h s f
  bb : berthFor h s [] = some b
  first : ∀ u, 0 ≤ u → u < f → ¬ inOk h s u
def Av (h : Harbour) (s : Ship) (t : Int) : DMv → Prop
  | .sea => ∀ b, berthFor h s [] = some b → ∀ u, 0 ≤ u → u < t → ¬ inOk h s u
  | .lie f b => Came h s f b ∧ f < t ∧ ∀ u, f + 1 + s.stay ≤ u → u < t → ¬ s.draught ≤ depthAt h u
  | .gone f b o => Came h s f b ∧ f + 1 + s.stay ≤ o ∧ o < t ∧ s.draught ≤ depthAt h o ∧ ∀ u, f + 1 + s.stay ≤ u → u < o → ¬ s.draught ≤ depthAt h u
def step1 (h : Harbour) (s : Ship) (m : DMv) (t : Int) : DMv :=
  let can : Bool := decide (s.draught ≤ depthAt h t) && (decide (s.need ≤ h.tugs) && decide (0 < h.pilots))
  match m with
  | .sea => if (decide (s.ready ≤ t) && can) = true then (match berthFor h s [] with | some b => .lie t b | none => .sea) else .sea
  | .lie f b => if (decide (f + 1 + s.stay ≤ t) && can) = true then .gone f b t else .lie f b
  | .gone f b o => .gone f b o
theorem hour_one (h : Harbour) (s : Ship) (m : DMv) (x y t : Int) : (hourStep h [s] [0] ⟨[m], x, y⟩ t).moves = [step1 h s m t] := by
  cases m with
  | sea =>
    show (inStep h [s] t (⟨[.sea], h.tugs, h.pilots⟩, []) 0).1.moves = _
    unfold inStep step1
    have e : (isSea (([DMv.sea] : List DMv).getD 0 .sea) && (decide ((([s] : List Ship).getD 0 noShip).ready ≤ t) && canMove h [s] ⟨[.sea], h.tugs, h.pilots⟩ 0 t)) = (decide (s.ready ≤ t) && (decide (s.draught ≤ depthAt h t) && (decide (s.need ≤ h.tugs) && decide (0 < h.pilots)))) := Bool.true_and _
    dsimp only
    rw [e]
    by_cases c : (decide (s.ready ≤ t) && (decide (s.draught ≤ depthAt h t) && (decide (s.need ≤ h.tugs) && decide (0 < h.pilots)))) = true
    · rw [if_pos c, if_pos c]
      have e2 : ([s] : List Ship).getD 0 noShip = s := rfl
      rw [e2]
      cases berthFor h s [] <;> rfl
    · rw [if_neg c, if_neg c]
  | lie f b =>
    show (inStep h [s] t (outStep h [s] t ⟨[.lie f b], h.tugs, h.pilots⟩ 0, [b]) 0).1.moves = _
    unfold outStep step1
    show (inStep h [s] t ((if (decide (f + 1 + s.stay ≤ t) && (decide (s.draught ≤ depthAt h t) && (decide (s.need ≤ h.tugs) && decide (0 < h.pilots)))) = true then _ else _), [b]) 0).1.moves = _
    dsimp only
    by_cases c : (decide (f + 1 + s.stay ≤ t) && (decide (s.draught ≤ depthAt h t) && (decide (s.need ≤ h.tugs) && decide (0 < h.pilots)))) = true
    · rw [if_pos c, if_pos c]
      rfl
    · rw [if_neg c, if_neg c]
      rfl
  | gone f b o => rfl
theorem Av.step {h : Harbour} {s : Ship} (sk : SOk s) {t : Int} (ht : 0 ≤ t) {m : DMv} (A : Av h s t m) : Av h s (t + 1) (step1 h s m t) := by
  have can : (decide (s.draught ≤ depthAt h t) && (decide (s.need ≤ h.tugs) && decide (0 < h.pilots))) = true ↔ s.draught ≤ depthAt h t ∧ s.need ≤ h.tugs ∧ 0 < h.pilots := by
    simp only [Bool.and_eq_true, decide_eq_true_iff]
  have t0 := sk.t0
  unfold step1
  dsimp only
  cases m with
  | sea =>
    dsimp only
    by_cases c : (decide (s.ready ≤ t) && (decide (s.draught ≤ depthAt h t) && (decide (s.need ≤ h.tugs) && decide (0 < h.pilots)))) = true
    · rw [if_pos c]
      rw [Bool.and_eq_true, can, decide_eq_true_iff] at c
      cases e : berthFor h s [] with
      | none => intro b z; rw [e] at z; cases z
      | some b => exact ⟨⟨ht, ⟨c.1, c.2⟩, e, fun u h0 h1 => A b e u h0 h1⟩, by omega, fun u h1 h2 => by have := c.1; omega⟩
    · rw [if_neg c]
      rw [Bool.and_eq_true, can, decide_eq_true_iff] at c
      intro b e u h0 h1 z
      by_cases w : u = t
      · subst w
        exact c ⟨z.1, z.2⟩
      · exact A b e u h0 (by omega) z
  | lie f b =>
    dsimp only
    obtain ⟨C, a1, a2⟩ := A
    by_cases c : (decide (f + 1 + s.stay ≤ t) && (decide (s.draught ≤ depthAt h t) && (decide (s.need ≤ h.tugs) && decide (0 < h.pilots)))) = true
    · rw [if_pos c]
      rw [Bool.and_eq_true, can, decide_eq_true_iff] at c
      exact ⟨C, c.1, by omega, c.2.1, fun u h1 h2 => a2 u h1 h2⟩
    · rw [if_neg c]
      rw [Bool.and_eq_true, can, decide_eq_true_iff] at c
      refine ⟨C, by omega, fun u h1 h2 z => ?_⟩
      by_cases w : u = t
      · subst w
        exact c ⟨h1, z, C.ok.2.2⟩
      · exact a2 u h1 (by omega) z
  | gone f b o =>
    obtain ⟨C, a1, a2, a3⟩ := A
    exact ⟨C, a1, by omega, a3⟩
theorem alone_hours {h : Harbour} {s : Ship} (sk : SOk s) : ∀ (n i : Nat) {m : DMv} {x y : Int}, Av h s (i : Int) m → ∃ m', ((hrs i n).foldl (hourStep h [s] [0]) ⟨[m], x, y⟩).moves = [m'] ∧ Av h s ((i + n : Nat) : Int) m'
  | 0, i, m, x, y, A => ⟨m, rfl, A⟩
  | n + 1, i, m, x, y, A => by
    have e : hrs i (n + 1) = (i : Int) :: hrs (i + 1) n := by
      unfold hrs
      rw [List.range'_succ]
      rfl
    rw [e, List.foldl_cons]
    have h1 := hour_one h s m x y (i : Int)
    have A' := A.step sk (by omega)
    generalize step1 h s m (i : Int) = m1 at h1 A'
    cases hd : hourStep h [s] [0] ⟨[m], x, y⟩ (i : Int) with
    | mk ms x' y' =>
      rw [hd] at h1
      have h1 : ms = [m1] := h1
      subst h1
      have := alone_hours sk n (i + 1) (x := x') (y := y') A'
      rwa [show i + 1 + n = i + (n + 1) by omega] at this
theorem alone_day {h : Harbour} (l0 : 0 ≤ h.last) {s : Ship} (sk : SOk s) : ∃ m, (dayEnd h [s] [0]).moves = [m] ∧ Av h s (h.last + 1) m := by
  have := alone_hours (h := h) sk (h.last + 1).toNat 0 (m := .sea) (x := 0) (y := 0) (fun b _ u h0 h1 => by omega)
  rw [show ((0 + (h.last + 1).toNat : Nat) : Int) = h.last + 1 by omega] at this
  unfold dayEnd
  rw [rng_hrs]
  exact this
theorem alone_good {h : Harbour} (hk : HOk h) (hb : ∀ b ∈ h.berths, 0 ≤ b) (hp : 1 ≤ h.pilots) {s : Ship} (sk : SOk s) : AloneGood h s := by
  obtain ⟨m, hm, A⟩ := alone_day hk.l0 sk
  have r0 := sk.r0; have t0 := sk.t0
  have bs := berth_some hk hb (s := s)
  have inn : ∀ {f o}, GoodHours h s f o → inOk h s f := fun G => ⟨G.early, G.din, G.need, by omega⟩
  have some_b : ∀ {f o}, GoodHours h s f o → ∃ b, berthFor h s [] = some b := fun G => Option.isSome_iff_exists.mp (bs.mpr G.fits)
  -- the plan by the order
  have pl : ∀ p, planBy h [s] [0] = some p → ∃ f b o, p = [(f, b, o)] ∧ GoodHours h s f o ∧ ∀ y, GoodHours h s y.1 y.2 → LeI (f, o) y := by
    intro p e
    unfold planBy at e
    rw [hm] at e
    cases m with
    | sea => cases e
    | lie f b => cases e
    | gone f b o =>
      cases e
      obtain ⟨C, a1, a2, a3, a4⟩ := A
      refine ⟨f, b, o, rfl, ⟨C.ok.2.2.1, bs.mp (by rw [C.bb]; rfl), C.f0, C.ok.1, by omega, by omega, C.ok.2.1, a3⟩, fun y G => ?_⟩
      have y0 := G.f0
      have c1 : ¬ y.1 < f := fun z => C.first y.1 y0 z (inn G)
      by_cases c2 : f < y.1
      · exact .inl c2
      · refine .inr ⟨by show f = y.1; omega, ?_⟩
        have := G.stay
        have c3 : ¬ y.2 < o := fun z => a4 y.2 (by omega) z G.dout
        show o ≤ y.2
        omega
  have pl2 : ∀ y : Int × Int, GoodHours h s y.1 y.2 → ∃ p, planBy h [s] [0] = some p := by
    intro y G
    obtain ⟨b0, hb0⟩ := some_b G
    have y0 := G.f0; have ys := G.stay; have yl := G.late
    unfold planBy
    rw [hm]
    cases m with
    | sea => exact absurd (inn G) (A b0 hb0 y.1 y0 (by omega))
    | lie f b =>
      obtain ⟨C, a1, a2⟩ := A
      have c1 : ¬ y.1 < f := fun z => C.first y.1 y0 z (inn G)
      exact absurd G.dout (a2 y.2 (by omega) (by omega))
    | gone f b o => exact ⟨_, rfl⟩
  -- the soonest plan
  have so : ∀ m, soonest h s = some m → GoodHours h s m.1 m.2.2 ∧ ∀ y : Int × Int, GoodHours h s y.1 y.2 → LeI (m.1, m.2.2) y := by
    intro m e
    have in_of : ∀ y : Int × Int, GoodHours h s y.1 y.2 → ∃ b, (y.1, b, y.2) ∈ plansAlone h s := by
      intro y G
      obtain ⟨b, hb0⟩ := some_b G
      obtain ⟨b1, b2, b3, _⟩ := berth_ok hb0
      have ys := G.stay; have yl := G.late
      exact ⟨b, plans_mem.mpr ⟨⟨G.early, by show y.1 ≤ h.last; omega⟩, ⟨by show y.1 + s.stay + 1 ≤ y.2; omega, G.late⟩, ⟨b1, b2⟩, (alone_plan hk hb hp sk).mpr ⟨G, b1, b2, b3⟩⟩⟩
    have ps := plans_sorted h s
    unfold soonest at e
    cases hl : plansAlone h s with
    | nil => rw [hl] at e; cases e
    | cons a as =>
      rw [hl] at e
      cases e
      have ha : m ∈ plansAlone h s := by rw [hl]; exact List.mem_cons_self ..
      obtain ⟨_, _, _, w⟩ := plans_mem.mp ha
      refine ⟨((alone_plan hk hb hp sk).mp w).1, fun y G => ?_⟩
      obtain ⟨b, hy⟩ := in_of y G
      rw [hl] at ps hy
      rcases List.mem_cons.mp hy with e | hy
      · rw [← e]
        exact .inr ⟨rfl, Int.le_refl _⟩
      · exact (List.pairwise_cons.mp ps).1 _ hy
  have so2 : ∀ y : Int × Int, GoodHours h s y.1 y.2 → ∃ m, soonest h s = some m := by
    intro y G
    obtain ⟨b, hb0⟩ := some_b G
    obtain ⟨b1, b2, b3, _⟩ := berth_ok hb0
    have ys := G.stay; have yl := G.late
    have hin : (y.1, b, y.2) ∈ plansAlone h s := plans_mem.mpr ⟨⟨G.early, by show y.1 ≤ h.last; omega⟩, ⟨by show y.1 + s.stay + 1 ≤ y.2; omega, G.late⟩, ⟨b1, b2⟩, (alone_plan hk hb hp sk).mpr ⟨G, b1, b2, b3⟩⟩
    unfold soonest
    cases hl : plansAlone h s with
    | nil => rw [hl] at hin; simp at hin
    | cons a as => exact ⟨a, rfl⟩
  refine ⟨fun z => ⟨?_, ?_⟩, fun x xs z => ?_⟩
  · cases e : planBy h [s] [0] with
    | none => rfl
    | some p =>
      obtain ⟨f, b, o, _, G, _⟩ := pl p e
      have := (hours_iff sk (q := (f, o))).mpr G
      rw [z] at this
      simp at this
  · cases e : soonest h s with
    | none => rfl
    | some m =>
      have := (hours_iff sk (q := (m.1, m.2.2))).mpr (so m e).1
      rw [z] at this
      simp at this
  · have gx : ∀ y ∈ x :: xs, GoodHours h s y.1 y.2 := fun y hy => (hours_iff sk).mp (by rw [z]; exact hy)
    have gi : ∀ q : Int × Int, GoodHours h s q.1 q.2 → q ∈ x :: xs := fun q hq => by
      rw [← z]
      exact (hours_iff sk).mpr hq
    have g0 := gx x (List.mem_cons_self ..)
    obtain ⟨m, hs⟩ := so2 x g0
    obtain ⟨p, hp1⟩ := pl2 x g0
    obtain ⟨s1, s2⟩ := so m hs
    obtain ⟨f, b, o, rfl, p1, p2⟩ := pl p hp1
    have e1 : (m.1, m.2.2) = minE ltI x xs := minE_eq (gi _ s1) fun y hy => s2 y (gx y hy)
    have e2 : (f, o) = minE ltI x xs := minE_eq (gi _ p1) fun y hy => p2 y (gx y hy)
    refine ⟨m, (f, b, o), hs, hp1, e1, e2, ?_⟩
    obtain ⟨mf, mb, mo⟩ := m
    have e3 : (mf, mo) = (f, o) := e1.trans e2.symm
    cases e3
    rfl
end TW

/-! Plain: all that is good. -/
namespace TW
open DL
theorem good_out (h : Harbour) (ss : List Ship) (t : Int) (d : DSt) (i : Nat) : (outStep h ss t d i).moves.length = d.moves.length := by
  unfold outStep
  split
  · split
    · exact List.length_set ..
    · rfl
  · rfl
theorem good_in (h : Harbour) (ss : List Ship) (t : Int) (q : DSt × List Int) (i : Nat) : (inStep h ss t q i).1.moves.length = q.1.moves.length := by
  unfold inStep
  split
  · split
    · exact List.length_set ..
    · rfl
  · rfl
theorem good_outs (h : Harbour) (ss : List Ship) (t : Int) : ∀ (l : List Nat) (d : DSt), (l.foldl (outStep h ss t) d).moves.length = d.moves.length
  | [], _ => rfl
  | i :: l, d => by rw [List.foldl_cons, good_outs h ss t l, good_out]
theorem good_ins (h : Harbour) (ss : List Ship) (t : Int) : ∀ (l : List Nat) (q : DSt × List Int), (l.foldl (inStep h ss t) q).1.moves.length = q.1.moves.length
  | [], _ => rfl
  | i :: l, q => by rw [List.foldl_cons, good_ins h ss t l, good_in]
theorem good_hours (h : Harbour) (ss : List Ship) (o : List Nat) : ∀ (l : List Int) (d : DSt), (l.foldl (hourStep h ss o) d).moves.length = d.moves.length
  | [], _ => rfl
  | t :: l, d => by
    rw [List.foldl_cons, good_hours h ss o l]
    unfold hourStep comeIn goOut
    rw [good_ins]
    exact good_outs ..
theorem plan_len {h : Harbour} {ss : List Ship} {o : List Nat} {p : Plan} (e : planBy h ss o = some p) : p.length ≤ ss.length := by
  unfold planBy at e
  split at e
  · cases e
    refine Nat.le_trans (List.length_filterMap_le ..) ?_
    unfold dayEnd
    rw [good_hours]
    show (ss.map fun _ => DMv.sea).length ≤ _
    rw [List.length_map]
    exact Nat.le_refl _
  · cases e
theorem good_all : GoodAll := fun h ss hk hb hp sk s1 s3 =>
  ⟨fun o p ho e => day_good hk sk s1 o p ho e, fun o p e => Nat.le_trans (plan_len e) (by omega), best_good s1 s3, fun s hs => alone_good hk hb hp (sk s hs)⟩
end TW

/-! What the top leaves, and the law's promise (written by gen1.py). -/
namespace TW
open PySem PySem.Spec L2 DL
open PyProof.Rows hiding St
def DefK (K : PySem.W.Frag) (x : Str) (st : Stmt) : Prop := ∃ f fd, Fun K x x st f fd ∧ PySem.W.nsIn K mainGlobals x = some (some (.ref f))
def MetK (K : PySem.W.Frag) (C : Addr) (x qual : Str) (st : Stmt) : Prop := ∃ f fd, Fun K x qual st f fd ∧ Meth K C x f
section
variable {K : PySem.W.Frag} {C f : Addr} {x qual : Str} {st : Stmt} {oc : Value} {od an : Option Addr} {osl : Array (Option Value)} {kV doc pm cdv ct : Value}
theorem defK_of (a : PySem.W.nsIn K mainGlobals x = some (some (.ref f))) (l : K.lookup f = some ⟨oc, od, .func (PySem.W.fnOf x x (defArgs st) (defBody st) (defScope st) .none kV doc pm an cdv ct), osl⟩) (c : PySem.W.codeIn K cdv x = true) (k : PySem.W.keepIn K (.ref f) = true) : DefK K x st := ⟨f, _, fun_mk l c k, a⟩
theorem metK_of (a : PySem.W.findIn K (.ref C) x = some (some (.ref f))) (i : PySem.W.isFn K (.ref f) = true) (l : K.lookup f = some ⟨oc, od, .func (PySem.W.fnOf x qual (defArgs st) (defBody st) (defScope st) .none kV doc pm an cdv ct), osl⟩) (c : PySem.W.codeIn K cdv qual = true) (k : PySem.W.keepIn K (.ref f) = true) : MetK K C x qual st := ⟨f, _, fun_mk l c k, a, i, k⟩
end
/-- a pair of two ints among the globals -/
def PairK (K : PySem.W.Frag) (x : Str) (i j : Int) : Prop := ∃ a o its n, PySem.W.nsIn K mainGlobals x = some (some (.ref a)) ∧ K.lookup a = some o ∧ o.cls = .type "tuple" ∧ o.data = .seq its n ∧ its.size ≤ sizeLine ∧ Vals [V.int i, V.int j] its.toList
theorem pairK_of {K : PySem.W.Frag} {a : Addr} {x : Str} {i j : Int} {od : Option Addr} {osl : Array (Option Value)} {its : Array Value} {n : Nat} (e : PySem.W.nsIn K mainGlobals x = some (some (.ref a))) (l : K.lookup a = some ⟨.type "tuple", od, .seq its n, osl⟩) (h : its.size ≤ sizeLine ∧ Vals [V.int i, V.int j] its.toList) : PairK K x i j := ⟨a, _, its, n, e, l, rfl, rfl, h.1, h.2⟩
/-- what the top leaves -/
structure TopK (K : PySem.W.Frag) : Prop where
  dDepth : DefK K "depth_at" sDepth
  dWrong1 : DefK K "own_wrong" sWrong1
  dShare : DefK K "share" sShare
  dMovers : DefK K "movers" sMovers
  dWrongIn : DefK K "wrong_in" sWrongIn
  dIsPlan : DefK K "is_plan" sIsPlan
  dWaits : DefK K "waits" sWaits
  dCost : DefK K "cost_of" sCost
  dHCosts : DefK K "hour_costs" sHCosts
  dWays : DefK K "ways_out" sWays
  dPHour : DefK K "price_of_hour" sPHour
  dGoings : DefK K "goings_on" sGoings
  dCheap : DefK K "cheapest_to_end" sCheap
  dLeast : DefK K "least_of" sLeast
  dRests : DefK K "rest_table" sRests
  dBehind : DefK K "state_behind" sBehind
  dOrderOf : DefK K "order_of" sOrderOf
  dPlanBy : DefK K "plan_by" sPlanBy
  dPriceOf : DefK K "price_of" sPriceOf
  dOrders : DefK K "orders" sOrders
  dBest : DefK K "best_orders" sBest
  dParting : DefK K "parting" sParting
  dAlone : DefK K "plans_alone" sAlone
  dSoon : DefK K "soonest" sSoon
  dLDraws : DefK K "_law_draws" sLDraws
  dLWorld : DefK K "_law_world" sLWorld
  dLOrders : DefK K "_law_orders" sLOrders
  dLHours : DefK K "_law_hours" sLHours
  dLaw : DefK K "law" sLaw
  pS : PairK K "AT_SEA" (-1) 0
  pG : PairK K "GONE" (-2) 0
  b_len : PySem.W.nsIn K mainGlobals "len" = some none
  b_range : PySem.W.nsIn K mainGlobals "range" = some none
  b_zip : PySem.W.nsIn K mainGlobals "zip" = some none
  b_enumerate : PySem.W.nsIn K mainGlobals "enumerate" = some none
  b_sum : PySem.W.nsIn K mainGlobals "sum" = some none
  b_max : PySem.W.nsIn K mainGlobals "max" = some none
  b_min : PySem.W.nsIn K mainGlobals "min" = some none
  b_any : PySem.W.nsIn K mainGlobals "any" = some none
  b_sorted : PySem.W.nsIn K mainGlobals "sorted" = some none
  b_tuple : PySem.W.nsIn K mainGlobals "tuple" = some none
  b_list : PySem.W.nsIn K mainGlobals "list" = some none
  b_int : PySem.W.nsIn K mainGlobals "int" = some none
/-- the class -/
structure DayK (K : PySem.W.Frag) (C : Addr) : Prop where
  at_ : PySem.W.nsIn K mainGlobals "Day" = some (some (.ref C))
  init : ∃ f fd, Fun K "__init__" "Day.__init__" sDInit f fd ∧ PySem.W.findIn K (.ref C) "__init__" = some (some (.ref f)) ∧ PySem.W.isFn K (.ref f) = true
  mDCan : MetK K C "can_move" "Day.can_move" sDCan
  mDSpend : MetK K C "spend" "Day.spend" sDSpend
  mDLying : MetK K C "lying" "Day.lying" sDLying
  mDOut : MetK K C "go_out" "Day.go_out" sDOut
  mDBerth : MetK K C "berth_for" "Day.berth_for" sDBerth
  mDIn : MetK K C "come_in" "Day.come_in" sDIn
  mDHour : MetK K C "hour" "Day.hour" sDHour
  cls : Cls K C
  makes : PySem.W.makesIn K C = true
  kc : PySem.W.keepIn K (.ref C) = true
  n_harbour : PySem.W.findIn K (.ref C) "harbour" = some none
  n_ships : PySem.W.findIn K (.ref C) "ships" = some none
  n_moves : PySem.W.findIn K (.ref C) "moves" = some none
  n_tugs : PySem.W.findIn K (.ref C) "tugs" = some none
  n_pilots : PySem.W.findIn K (.ref C) "pilots" = some none
theorem init_of {K : PySem.W.Frag} {C f : Addr} {oc : Value} {od an : Option Addr} {osl : Array (Option Value)} {kV doc pm cdv ct : Value} (a : PySem.W.findIn K (.ref C) "__init__" = some (some (.ref f))) (i : PySem.W.isFn K (.ref f) = true) (l : K.lookup f = some ⟨oc, od, .func (PySem.W.fnOf "__init__" "Day.__init__" (defArgs sDInit) (defBody sDInit) (defScope sDInit) .none kV doc pm an cdv ct), osl⟩) (c : PySem.W.codeIn K cdv "Day.__init__" = true) (k : PySem.W.keepIn K (.ref f) = true) :
    ∃ f fd, Fun K "__init__" "Day.__init__" sDInit f fd ∧ PySem.W.findIn K (.ref C) "__init__" = some (some (.ref f)) ∧ PySem.W.isFn K (.ref f) = true := ⟨f, _, fun_mk l c k, a, i⟩
section
variable {T : Tx} {h : Heap} (X : T.K.In h) (G : h.Ns mainGlobals T.mg)
include X G
theorem DefK.at_ {x : Str} {st : Stmt} {ps : List Str} (d : DefK T.K x st) (hb : ∀ (kV doc pm : Value) (an : Option Addr) (cdv ct : Value) (us : List Value), us.length = ps.length → bindArgs (PySem.W.fnOf x x (defArgs st) (defBody st) (defScope st) .none kV doc pm an cdv ct) ⟨us, []⟩ = pure (ps.zip us)) : DefAt T x st ps := by
  obtain ⟨f, fd, F, a⟩ := d
  exact ⟨f, fd, F, PySem.W.mg_of X G a, F.binds hb⟩
omit X G in
theorem MetK.at_ {C : Addr} {x qual : Str} {st : Stmt} {ps : List Str} (d : MetK T.K C x qual st) (hb : ∀ (kV doc pm : Value) (an : Option Addr) (cdv ct : Value) (us : List Value), us.length = ps.length → bindArgs (PySem.W.fnOf x qual (defArgs st) (defBody st) (defScope st) .none kV doc pm an cdv ct) ⟨us, []⟩ = pure (ps.zip us)) : MethAt T C x qual st ps := by
  obtain ⟨f, fd, F, m⟩ := d
  exact ⟨f, fd, F, m, F.binds hb⟩
theorem PairK.glob {x : Str} {i j : Int} (p : PairK T.K x i j) : GlobD T x (encP (i, j)) := by
  obtain ⟨a, o, its, n, e, l, c, d, z, v⟩ := p
  refine ⟨.ref a, .ref a, PySem.W.mg_of X G e, rfl, fun H => ?_⟩
  exact .tup (.inr ⟨o, its, n, l, c, d, z, v⟩) (.cons (.int _) (.cons (.int _) .nil))
set_option maxHeartbeats 4000000 in
theorem fns_of (t : TopK T.K) {C : Addr} (c : DayK T.K C) : Blt T ∧ Fns T := by
  have none : ∀ {n : Str}, PySem.W.nsIn T.K mainGlobals n = some none → T.mg n = none := fun e => PySem.W.mg_none_of X G e
  have B : Blt T := ⟨none t.b_len, none t.b_range, none t.b_zip, none t.b_enumerate, none t.b_sum, none t.b_max, none t.b_min, none t.b_any, none t.b_sorted, none t.b_tuple, none t.b_list, none t.b_int⟩
  have GS : GlobD T "AT_SEA" (encP SEA) := t.pS.glob X G
  have GG : GlobD T "GONE" (encP GONE) := t.pG.glob X G
  have K : ClsD T C dayNs := ⟨c.cls, fun f hf => by
    unfold dayNs at hf
    simp only [List.mem_cons, List.not_mem_nil, or_false] at hf
    rcases hf with rfl | rfl | rfl | rfl | rfl
    · exact c.n_harbour
    · exact c.n_ships
    · exact c.n_moves
    · exact c.n_tugs
    · exact c.n_pilots⟩
  have dDepth : DefAt T "depth_at" sDepth pDepth := t.dDepth.at_ X G (fun _ _ _ _ _ _ us hl => match us, hl with | [_, _], _ => rfl)
  have dWrong1 : DefAt T "own_wrong" sWrong1 pWrong1 := t.dWrong1.at_ X G (fun _ _ _ _ _ _ us hl => match us, hl with | [_, _, _], _ => rfl)
  have dShare : DefAt T "share" sShare pShare := t.dShare.at_ X G (fun _ _ _ _ _ _ us hl => match us, hl with | [_, _], _ => rfl)
  have dMovers : DefAt T "movers" sMovers pMovers := t.dMovers.at_ X G (fun _ _ _ _ _ _ us hl => match us, hl with | [_, _], _ => rfl)
  have dWrongIn : DefAt T "wrong_in" sWrongIn pWrongIn := t.dWrongIn.at_ X G (fun _ _ _ _ _ _ us hl => match us, hl with | [_, _, _], _ => rfl)
  have dIsPlan : DefAt T "is_plan" sIsPlan pIsPlan := t.dIsPlan.at_ X G (fun _ _ _ _ _ _ us hl => match us, hl with | [_, _, _], _ => rfl)
  have dWaits : DefAt T "waits" sWaits pWaits := t.dWaits.at_ X G (fun _ _ _ _ _ _ us hl => match us, hl with | [_, _], _ => rfl)
  have dCost : DefAt T "cost_of" sCost pCost := t.dCost.at_ X G (fun _ _ _ _ _ _ us hl => match us, hl with | [_, _], _ => rfl)
  have dHCosts : DefAt T "hour_costs" sHCosts pHCosts := t.dHCosts.at_ X G (fun _ _ _ _ _ _ us hl => match us, hl with | [_, _], _ => rfl)
  have dWays : DefAt T "ways_out" sWays pWays := t.dWays.at_ X G (fun _ _ _ _ _ _ us hl => match us, hl with | [_, _, _, _], _ => rfl)
  have dPHour : DefAt T "price_of_hour" sPHour pPHour := t.dPHour.at_ X G (fun _ _ _ _ _ _ us hl => match us, hl with | [_, _, _, _], _ => rfl)
  have dGoings : DefAt T "goings_on" sGoings pGoings := t.dGoings.at_ X G (fun _ _ _ _ _ _ us hl => match us, hl with | [_, _, _, _], _ => rfl)
  have dCheap : DefAt T "cheapest_to_end" sCheap pCheap := t.dCheap.at_ X G (fun _ _ _ _ _ _ us hl => match us, hl with | [_, _, _, _], _ => rfl)
  have dLeast : DefAt T "least_of" sLeast pLeast := t.dLeast.at_ X G (fun _ _ _ _ _ _ us hl => match us, hl with | [_, _], _ => rfl)
  have dRests : DefAt T "rest_table" sRests pRests := t.dRests.at_ X G (fun _ _ _ _ _ _ us hl => match us, hl with | [_, _], _ => rfl)
  have dBehind : DefAt T "state_behind" sBehind pBehind := t.dBehind.at_ X G (fun _ _ _ _ _ _ us hl => match us, hl with | [_, _, _], _ => rfl)
  have dOrderOf : DefAt T "order_of" sOrderOf pOrderOf := t.dOrderOf.at_ X G (fun _ _ _ _ _ _ us hl => match us, hl with | [_, _], _ => rfl)
  have dPlanBy : DefAt T "plan_by" sPlanBy pPlanBy := t.dPlanBy.at_ X G (fun _ _ _ _ _ _ us hl => match us, hl with | [_, _, _], _ => rfl)
  have dPriceOf : DefAt T "price_of" sPriceOf pPriceOf := t.dPriceOf.at_ X G (fun _ _ _ _ _ _ us hl => match us, hl with | [_, _, _], _ => rfl)
  have dOrders : DefAt T "orders" sOrders pOrders := t.dOrders.at_ X G (fun _ _ _ _ _ _ us hl => match us, hl with | [_], _ => rfl)
  have dBest : DefAt T "best_orders" sBest pBest := t.dBest.at_ X G (fun _ _ _ _ _ _ us hl => match us, hl with | [_, _], _ => rfl)
  have dParting : DefAt T "parting" sParting pParting := t.dParting.at_ X G (fun _ _ _ _ _ _ us hl => match us, hl with | [_, _, _], _ => rfl)
  have dAlone : DefAt T "plans_alone" sAlone pAlone := t.dAlone.at_ X G (fun _ _ _ _ _ _ us hl => match us, hl with | [_, _], _ => rfl)
  have dSoon : DefAt T "soonest" sSoon pSoon := t.dSoon.at_ X G (fun _ _ _ _ _ _ us hl => match us, hl with | [_, _], _ => rfl)
  have dLDraws : DefAt T "_law_draws" sLDraws pLDraws := t.dLDraws.at_ X G (fun _ _ _ _ _ _ us hl => match us, hl with | [_, _], _ => rfl)
  have dLWorld : DefAt T "_law_world" sLWorld pLWorld := t.dLWorld.at_ X G (fun _ _ _ _ _ _ us hl => match us, hl with | [_], _ => rfl)
  have dLOrders : DefAt T "_law_orders" sLOrders pLOrders := t.dLOrders.at_ X G (fun _ _ _ _ _ _ us hl => match us, hl with | [_], _ => rfl)
  have dLHours : DefAt T "_law_hours" sLHours pLHours := t.dLHours.at_ X G (fun _ _ _ _ _ _ us hl => match us, hl with | [_, _], _ => rfl)
  have dLaw : DefAt T "law" sLaw pLaw := t.dLaw.at_ X G (fun _ _ _ _ _ _ us hl => match us, hl with | [_], _ => rfl)
  have mDCan : MethAt T C "can_move" "Day.can_move" sDCan pDCan := c.mDCan.at_ (fun _ _ _ _ _ _ us hl => match us, hl with | [_, _, _], _ => rfl)
  have mDSpend : MethAt T C "spend" "Day.spend" sDSpend pDSpend := c.mDSpend.at_ (fun _ _ _ _ _ _ us hl => match us, hl with | [_, _], _ => rfl)
  have mDLying : MethAt T C "lying" "Day.lying" sDLying pDLying := c.mDLying.at_ (fun _ _ _ _ _ _ us hl => match us, hl with | [_], _ => rfl)
  have mDOut : MethAt T C "go_out" "Day.go_out" sDOut pDOut := c.mDOut.at_ (fun _ _ _ _ _ _ us hl => match us, hl with | [_, _], _ => rfl)
  have mDBerth : MethAt T C "berth_for" "Day.berth_for" sDBerth pDBerth := c.mDBerth.at_ (fun _ _ _ _ _ _ us hl => match us, hl with | [_, _, _], _ => rfl)
  have mDIn : MethAt T C "come_in" "Day.come_in" sDIn pDIn := c.mDIn.at_ (fun _ _ _ _ _ _ us hl => match us, hl with | [_, _, _, _], _ => rfl)
  have mDHour : MethAt T C "hour" "Day.hour" sDHour pDHour := c.mDHour.at_ (fun _ _ _ _ _ _ us hl => match us, hl with | [_, _, _], _ => rfl)
  have mDInit : InitAt T C sDInit pDInit := by
    obtain ⟨f, fd, F, a, i⟩ := c.init
    exact ⟨f, fd, F, ⟨c.makes, a, i, c.kc⟩, F.binds (fun _ _ _ _ _ _ us hl => match us, hl with | [_, _, _], _ => rfl)⟩
  have fDepth := F_depth B dDepth
  have fWrong1 := F_wrong1 B fDepth dWrong1
  have fShare := F_share B dShare
  have fMovers := F_movers B dMovers
  have fWrongIn := F_wrongIn B fWrong1 fShare fMovers dWrongIn
  have fIsPlan := F_isPlan B fWrongIn dIsPlan
  have fWaits := F_waits B dWaits
  have fCost := F_cost B fWaits dCost
  have fHCosts := F_hcosts B dHCosts
  have fWays := F_ways B GS GG fDepth dWays
  have fPHour := F_phour B GS GG dPHour
  have fGoings := F_goings B GS GG fWays fPHour dGoings
  have fCheap := F_cheap B GS GG fGoings dCheap
  have fLeast := F_least B GS GG fCheap dLeast
  have fRests := F_rests B GS GG fGoings dRests
  have fBehind := F_behind B GS GG dBehind
  have fParting := F_parting B GS GG fRests fBehind fHCosts dParting
  have fOrderOf := F_orderOf B dOrderOf
  have fCan := F_can B K fDepth mDCan
  have fSpend := F_spend B K mDSpend
  have fLying := F_lying B K mDLying
  have fBerth := F_berth B K mDBerth
  have fOut := F_out B K fLying fCan fSpend mDOut
  have fIn := F_in B K fBerth fCan fSpend mDIn
  have fHour := F_hour B K fLying fOut fIn mDHour
  have fInit := F_init B K mDInit
  have fPlanBy := F_planBy B K fInit fHour (PySem.W.mg_of X G c.at_) dPlanBy
  have fPriceOf := F_priceOf B fPlanBy fCost fLeast dPriceOf
  have fOrders := F_orders B dOrders
  have fBest := F_best B (fOrders 4) fPlanBy fCost dBest
  have fAlone := F_alone B fIsPlan dAlone
  have fSoon := F_soon B fAlone dSoon
  exact ⟨B, F_draws B dLDraws, F_world B dLWorld, fBest, F_lorders B dLOrders, fPlanBy, fPriceOf, fWrongIn, fParting, fOrderOf, fSoon, F_lhours B dLHours, fCost⟩
end
theorem all_mk {l : PySem.W.OpenLaw} {w : World} {K : PySem.W.Frag} {h : Heap} {mg : Str → Option Value} {fa C : Addr} (X : K.In h) (G : h.Ns mainGlobals mg) (hfa : mg "law" = some (.ref fa)) (c : DayK K C) (t : TopK K) :
    ∃ fd : FuncData, (∀ (s : Shared) (v : Value), BindsTo s fd ⟨[v], []⟩ [("_law_script", v)]) ∧ ∀ base : Heap, K.In base → base.Ns mainGlobals mg → FnOk l.prog w K mg base CX0 8 fa fd ["_law_script"] (spLaw K) := by
  obtain ⟨f, fd, F, a⟩ := id t.dLaw
  have e := hfa.symm.trans (PySem.W.mg_of X G a)
  cases e
  refine ⟨fd, fun s v => ?_, fun base X1 G1 => ?_⟩
  · obtain ⟨oc, od, kV, doc, pm, an, cdv, ct, osl, rfl, lk, hcd⟩ := F.ex
    exact .of_eq rfl
  · obtain ⟨B, Fs⟩ := fns_of (T := ⟨l.prog, w, K, mg, base⟩) X1 G1 t c
    exact F_law (T := ⟨l.prog, w, K, mg, base⟩) B Fs good_all orders_good (t.dLaw.at_ X1 G1 (fun _ _ _ _ _ _ us hl => match us, hl with | [_], _ => rfl)) _ _ F
theorem walk {l : PySem.W.OpenLaw} {q : Program} {loose : List Str} {XP : (Str → Option Value) → Heap → Prop} {YP : World → Heap → Prop} {d : DefRec} {K : Params → PySem.W.Frag} (hn : l.most = some 63) (hdf : d.params.defaults = [])
    (hY : ∀ (w : World) (h : Heap), YP w h → (K w.params).In h)
    (F : ∀ (w : World) (mg : Str → Option Value) (fa : Addr) (h : Heap), (K w.params).In h → h.Ns mainGlobals mg → mg d.name = some (.ref fa) →
      ∃ fd : FuncData, (∀ (s : Shared) (u : Value), BindsTo s fd ⟨[u], []⟩ [("_law_script", u)]) ∧ ∀ base : Heap, (K w.params).In base → base.Ns mainGlobals mg → FnOk l.prog w (K w.params) mg base CX0 8 fa fd ["_law_script"] (spLaw (K w.params))) :
    PySem.W.WalkO q loose XP YP l.row.toRowW d [] (fun f vs => PySem.call f vs) :=
  L2.walk_of (n := 63) (k := 8) (x := "_law_script") (CX := fun _ => CX0) (sp := fun w => spLaw (K w.params)) hn (by decide) hdf ⟨rfl, by decide, by decide⟩ hY F (fun _ _ a ns hl _ hS => ⟨a, ns, rfl, hS, hl, fun _ => rfl⟩) fun _ _ _ _ _ z => z
end TW

open PySem PySem.W PyProof.Rows in
set_option maxRecDepth 100000 in
set_option maxHeartbeats 0 in
theorem PySem.Challenge.cw_tidewaits_k31_whole_rules_are_never_bett_holds : PySem.Challenge.rw_tidewaits_k31_whole_rules_are_never_bett.Holds := by
  w_on; o_law; k_head; (case hw => w_witness2)
  k_fill
  refine TW.walk (l := PySem.Challenge.rw_tidewaits_k31_whole_rules_are_never_bett) rfl rfl (fun w h Y => PySem.W.kIn_of Y) ?F
  case F =>
    intro w mg fa h KX G hmg
    refine' TW.all_mk KX G hmg ⟨?yC, TW.init_of ?y1 ?y2 ?y3 ?y4 ?y5, TW.metK_of ?m0a ?m0i ?m0l ?m0c ?m0k, TW.metK_of ?m1a ?m1i ?m1l ?m1c ?m1k, TW.metK_of ?m2a ?m2i ?m2l ?m2c ?m2k, TW.metK_of ?m3a ?m3i ?m3l ?m3c ?m3k, TW.metK_of ?m4a ?m4i ?m4l ?m4c ?m4k, TW.metK_of ?m5a ?m5i ?m5l ?m5c ?m5k, TW.metK_of ?m6a ?m6i ?m6l ?m6c ?m6k, ⟨?ypg, ?yhd, ?ypo, ?ysa⟩, ?ymk, ?ykc, ?f0, ?f1, ?f2, ?f3, ?f4⟩ ⟨TW.defK_of ?d0a ?d0l ?d0c ?d0k, TW.defK_of ?d1a ?d1l ?d1c ?d1k, TW.defK_of ?d2a ?d2l ?d2c ?d2k, TW.defK_of ?d3a ?d3l ?d3c ?d3k, TW.defK_of ?d4a ?d4l ?d4c ?d4k, TW.defK_of ?d5a ?d5l ?d5c ?d5k, TW.defK_of ?d6a ?d6l ?d6c ?d6k, TW.defK_of ?d7a ?d7l ?d7c ?d7k, TW.defK_of ?d8a ?d8l ?d8c ?d8k, TW.defK_of ?d9a ?d9l ?d9c ?d9k, TW.defK_of ?d10a ?d10l ?d10c ?d10k, TW.defK_of ?d11a ?d11l ?d11c ?d11k, TW.defK_of ?d12a ?d12l ?d12c ?d12k, TW.defK_of ?d13a ?d13l ?d13c ?d13k, TW.defK_of ?d14a ?d14l ?d14c ?d14k, TW.defK_of ?d15a ?d15l ?d15c ?d15k, TW.defK_of ?d16a ?d16l ?d16c ?d16k, TW.defK_of ?d17a ?d17l ?d17c ?d17k, TW.defK_of ?d18a ?d18l ?d18c ?d18k, TW.defK_of ?d19a ?d19l ?d19c ?d19k, TW.defK_of ?d20a ?d20l ?d20c ?d20k, TW.defK_of ?d21a ?d21l ?d21c ?d21k, TW.defK_of ?d22a ?d22l ?d22c ?d22k, TW.defK_of ?d23a ?d23l ?d23c ?d23k, TW.defK_of ?d24a ?d24l ?d24c ?d24k, TW.defK_of ?d25a ?d25l ?d25c ?d25k, TW.defK_of ?d26a ?d26l ?d26c ?d26k, TW.defK_of ?d27a ?d27l ?d27c ?d27k, TW.defK_of ?d28a ?d28l ?d28c ?d28k, TW.pairK_of ?ps1 ?ps2 ?gs, TW.pairK_of ?pg1 ?pg2 ?gg, ?b0, ?b1, ?b2, ?b3, ?b4, ?b5, ?b6, ?b7, ?b8, ?b9, ?b10, ?b11⟩
    (case yC => k_is)
    (case y1 => k_is)
    (case y2 => k_is)
    (case y3 => k_is)
    (case y4 => k_is)
    (case y5 => k_is)
    (case m0a => k_is)
    (case m0i => k_is)
    (case m0l => k_is)
    (case m0c => k_is)
    (case m0k => k_is)
    (case m1a => k_is)
    (case m1i => k_is)
    (case m1l => k_is)
    (case m1c => k_is)
    (case m1k => k_is)
    (case m2a => k_is)
    (case m2i => k_is)
    (case m2l => k_is)
    (case m2c => k_is)
    (case m2k => k_is)
    (case m3a => k_is)
    (case m3i => k_is)
    (case m3l => k_is)
    (case m3c => k_is)
    (case m3k => k_is)
    (case m4a => k_is)
    (case m4i => k_is)
    (case m4l => k_is)
    (case m4c => k_is)
    (case m4k => k_is)
    (case m5a => k_is)
    (case m5i => k_is)
    (case m5l => k_is)
    (case m5c => k_is)
    (case m5k => k_is)
    (case m6a => k_is)
    (case m6i => k_is)
    (case m6l => k_is)
    (case m6c => k_is)
    (case m6k => k_is)
    (case ypg => k_is)
    (case yhd => k_is)
    (case ypo => k_is)
    (case ysa => k_is)
    (case ymk => k_is)
    (case ykc => k_is)
    (case f0 => k_is)
    (case f1 => k_is)
    (case f2 => k_is)
    (case f3 => k_is)
    (case f4 => k_is)
    (case d0a => k_is)
    (case d0l => k_is)
    (case d0c => k_is)
    (case d0k => k_is)
    (case d1a => k_is)
    (case d1l => k_is)
    (case d1c => k_is)
    (case d1k => k_is)
    (case d2a => k_is)
    (case d2l => k_is)
    (case d2c => k_is)
    (case d2k => k_is)
    (case d3a => k_is)
    (case d3l => k_is)
    (case d3c => k_is)
    (case d3k => k_is)
    (case d4a => k_is)
    (case d4l => k_is)
    (case d4c => k_is)
    (case d4k => k_is)
    (case d5a => k_is)
    (case d5l => k_is)
    (case d5c => k_is)
    (case d5k => k_is)
    (case d6a => k_is)
    (case d6l => k_is)
    (case d6c => k_is)
    (case d6k => k_is)
    (case d7a => k_is)
    (case d7l => k_is)
    (case d7c => k_is)
    (case d7k => k_is)
    (case d8a => k_is)
    (case d8l => k_is)
    (case d8c => k_is)
    (case d8k => k_is)
    (case d9a => k_is)
    (case d9l => k_is)
    (case d9c => k_is)
    (case d9k => k_is)
    (case d10a => k_is)
    (case d10l => k_is)
    (case d10c => k_is)
    (case d10k => k_is)
    (case d11a => k_is)
    (case d11l => k_is)
    (case d11c => k_is)
    (case d11k => k_is)
    (case d12a => k_is)
    (case d12l => k_is)
    (case d12c => k_is)
    (case d12k => k_is)
    (case d13a => k_is)
    (case d13l => k_is)
    (case d13c => k_is)
    (case d13k => k_is)
    (case d14a => k_is)
    (case d14l => k_is)
    (case d14c => k_is)
    (case d14k => k_is)
    (case d15a => k_is)
    (case d15l => k_is)
    (case d15c => k_is)
    (case d15k => k_is)
    (case d16a => k_is)
    (case d16l => k_is)
    (case d16c => k_is)
    (case d16k => k_is)
    (case d17a => k_is)
    (case d17l => k_is)
    (case d17c => k_is)
    (case d17k => k_is)
    (case d18a => k_is)
    (case d18l => k_is)
    (case d18c => k_is)
    (case d18k => k_is)
    (case d19a => k_is)
    (case d19l => k_is)
    (case d19c => k_is)
    (case d19k => k_is)
    (case d20a => k_is)
    (case d20l => k_is)
    (case d20c => k_is)
    (case d20k => k_is)
    (case d21a => k_is)
    (case d21l => k_is)
    (case d21c => k_is)
    (case d21k => k_is)
    (case d22a => k_is)
    (case d22l => k_is)
    (case d22c => k_is)
    (case d22k => k_is)
    (case d23a => k_is)
    (case d23l => k_is)
    (case d23c => k_is)
    (case d23k => k_is)
    (case d24a => k_is)
    (case d24l => k_is)
    (case d24c => k_is)
    (case d24k => k_is)
    (case d25a => k_is)
    (case d25l => k_is)
    (case d25c => k_is)
    (case d25k => k_is)
    (case d26a => k_is)
    (case d26l => k_is)
    (case d26c => k_is)
    (case d26k => k_is)
    (case d27a => k_is)
    (case d27l => k_is)
    (case d27c => k_is)
    (case d27k => k_is)
    (case d28a => k_is)
    (case d28l => k_is)
    (case d28c => k_is)
    (case d28k => k_is)
    (case ps1 => k_is)
    (case ps2 => k_is)
    (case pg1 => k_is)
    (case pg2 => k_is)
    (case b0 => k_is)
    (case b1 => k_is)
    (case b2 => k_is)
    (case b3 => k_is)
    (case b4 => k_is)
    (case b5 => k_is)
    (case b6 => k_is)
    (case b7 => k_is)
    (case b8 => k_is)
    (case b9 => k_is)
    (case b10 => k_is)
    (case b11 => k_is)
    (case gs => exact ⟨by decide, .cons ⟨_, rfl⟩ (.cons ⟨_, rfl⟩ .nil)⟩)
    (case gg => exact ⟨by decide, .cons ⟨_, rfl⟩ (.cons ⟨_, rfl⟩ .nil)⟩)
