import PyProof.Rows.All
import Wide.All
import OpenK.AllK
import Wide.FinOn
import KE.KeyNested
import KE.KDictKeyed
import HandS.ForMost
import HandS.ForExc
import HandS.TupAny
import HandS.TupMul
import HandS.Style
import HandS.IsInst
import HandS.Zip
import HandS.Small
import HandS.TryOnly
import HandS.Flow
import HandS.HotCalls
import HandS.CallSlots
import HandS.Dict
import HandS.DictComp
import KE.SortData
import KE.KDictCopyH
import KE.KDictSum
import KE.KDictExact
import HandS.Deep
import HandS.More
import KE.KDictPairs
import KE.DataCmp
import HandS.Strs
import HandS.Text
import HandS.RaiseMore
import HandS.Steps
import HandS.StrMore
import PySem.Challenge.RW_askproved_k38_things_in_order
set_option Elab.async false
set_option linter.all false
set_option maxRecDepth 100000
set_option maxHeartbeats 2000000
/-! DM0: dicts whose keys are nested tuples, and dicts of ints and texts, over the abstract heap. -/
namespace DL
open PySem PySem.Spec PyProof.Rows L2
/-- the program and the world that a layer speaks of -/
class Wd where
  P : Program
  w : World
structure WdOk [Wd] (X : Cx) : Prop where
  p : X.prog = Wd.P
  w : X.w = Wd.w
abbrev NK := PySem.NestedKey
abbrev NKs := List (NK × Addr × V)
def NKV (kvs : NKs) (xs : List (NK × Addr × Value)) : Prop := Paired (fun (p : NK × Addr × V) (q : NK × Addr × Value) => p.1 = q.1 ∧ p.2.1 = q.2.1 ∧ RelV p.2.2 q.2.2) kvs xs
def DnRaw (P : Program) (w : World) (h : Heap) (a : Addr) (xs : List (NK × Addr × Value)) : Prop :=
  ∃ o es ep, h.get? a = some o ∧ o.ExactDict ∧ o.data = .dict es ep ∧ es.toList = xs.map (entryOfKey (nestedKind P w))
def DnOk (P : Program) (w : World) (h : Heap) (a : Addr) (kvs : NKs) : Prop := kvs.length ≤ sizeLine ∧ (a == sysModules) = false ∧ ∃ xs, NKV kvs xs ∧ (xs.map (·.1)).Nodup ∧ DnRaw P w h a xs
def DnO [Wd] (a : Addr) (kvs : NKs) : HO := .ext fun h => DnOk Wd.P Wd.w h a kvs
theorem dnRaw_at {P : Program} {w : World} {h h' : Heap} {a : Addr} {xs : List (NK × Addr × Value)} (x : DnRaw P w h a xs) (k : ∀ o, h.get? a = some o → h'.get? a = some o) : DnRaw P w h' a xs := let ⟨o, es, ep, e, r⟩ := x; ⟨o, es, ep, k o e, r⟩
theorem dnO_ok [Wd] {P : Program} {w : World} {H : Hp} {h : Heap} {a : Addr} {kvs : NKs} (x : DnOk Wd.P Wd.w h a kvs) : ObjOk P w H h a (DnO a kvs) := by
  refine ⟨x, ?_, fun h1 h2 y k => ?_⟩
  · obtain ⟨_, _, _, _, _, o, _, _, e, _⟩ := x
    exact ⟨o, e⟩
  · obtain ⟨a1, a2, xs, a3, a4, a5⟩ := y
    exact ⟨a1, a2, xs, a3, a4, dnRaw_at a5 k⟩
theorem dnO_at [Wd] {P : Program} {w : World} {H : Hp} {h : Heap} {a : Addr} {kvs : NKs} (ok : HOk P w H h) (e : H a = some (DnO a kvs)) : DnOk Wd.P Wd.w h a kvs := (ok a _ e).1
/-- the entries: looked up, put, taken out -/
def valN (kvs : NKs) (k : NK) : Option V := (kvs.find? fun p => decide (p.1 = k)).map (·.2.2)
def putN (kvs : NKs) (k : NK) (b : Addr) (v : V) : NKs := if (valN kvs k).isSome then kvs.map (fun p => if p.1 = k then (p.1, p.2.1, v) else p) else kvs ++ [(k, b, v)]
def dropN (kvs : NKs) (k : NK) : NKs := kvs.filter fun p => decide (p.1 ≠ k)
section
variable {kvs : NKs} {xs : List (NK × Addr × Value)}
theorem NKV.val : ∀ {kvs : NKs} {xs : List (NK × Addr × Value)}, NKV kvs xs → ∀ k : NK, RelO (valN kvs k) ((atKey xs k).map (·.2))
  | _, _, .nil, k => trivial
  | p :: kvs, q :: xs, .cons ⟨e1, e2, e3⟩ t, k => by
    have ih := NKV.val t k
    unfold valN atKey at ih ⊢
    rw [List.find?_cons, List.find?_cons, ← e1]
    by_cases z : p.1 = k
    · simp only [z, decide_true, Option.map_some]
      exact e3
    · simp only [z, decide_false]
      exact ih
theorem NKV.putAll (k : NK) {y : V} {u : Value} (ry : RelV y u) : ∀ {kvs : NKs} {xs : List (NK × Addr × Value)}, NKV kvs xs → NKV (kvs.map fun p => if p.1 = k then (p.1, p.2.1, y) else p) (xs.map (putAt k u))
  | _, _, .nil => .nil
  | p :: kvs, q :: xs, .cons ⟨e1, e2, e3⟩ t => by
    refine .cons ?_ (NKV.putAll k ry t)
    unfold putAt
    dsimp only
    by_cases z : p.1 = k
    · rw [if_pos z, if_pos (e1 ▸ z)]
      exact ⟨e1, e2, ry⟩
    · rw [if_neg z, if_neg (e1 ▸ z)]
      exact ⟨e1, e2, e3⟩
theorem nkv_app : ∀ {kvs kvs' : NKs} {xs xs' : List (NK × Addr × Value)}, NKV kvs xs → NKV kvs' xs' → NKV (kvs ++ kvs') (xs ++ xs')
  | _, _, _, _, .nil, s => s
  | _, _, _, _, .cons r t, s => .cons r (nkv_app t s)
theorem NKV.put (r : NKV kvs xs) (k : NK) (b : Addr) {y : V} {u : Value} (ry : RelV y u) : NKV (putN kvs k b y) (storedH xs k b u) := by
  unfold putN storedH
  have h := (r.val k).isSome_eq
  rw [Option.isSome_map] at h
  rw [h]
  by_cases z : (atKey xs k).isSome = true
  · rw [if_pos z, if_pos z]
    exact r.putAll k ry
  · rw [if_neg z, if_neg z]
    exact nkv_app r (.cons ⟨rfl, rfl, ry⟩ .nil)
theorem NKV.drop (k : NK) : ∀ {kvs : NKs} {xs : List (NK × Addr × Value)}, NKV kvs xs → NKV (dropN kvs k) (withoutH xs k)
  | _, _, .nil => .nil
  | p :: kvs, q :: xs, .cons ⟨e1, e2, e3⟩ t => by
    have ih := NKV.drop k t
    unfold dropN withoutH at ih ⊢
    rw [List.filter_cons, List.filter_cons, ← e1]
    by_cases z : p.1 = k
    · rw [if_neg (by simp [z]), if_neg (by simp [z])]
      exact ih
    · rw [if_pos (by simp [z]), if_pos (by simp [z])]
      exact .cons ⟨e1, e2, e3⟩ ih
theorem NKV.len (r : NKV kvs xs) : kvs.length = xs.length := Paired.length r
theorem length_putN (kvs : NKs) (k : NK) (b : Addr) (v : V) : (putN kvs k b v).length ≤ kvs.length + 1 := by
  unfold putN
  split
  · rw [List.length_map]; omega
  · rw [List.length_append]; exact Nat.le_refl _
theorem length_dropN (kvs : NKs) (k : NK) : (dropN kvs k).length ≤ kvs.length := List.length_filter_le _ _
end
/-! what stands in the heap is the key -/
section
variable {X : Cx} {pins : List (Addr × Obj)} {σ : L2.St} {H : Hp} {s : Shared}
mutual
theorem nested_is (I : Inv X pins σ H s) : ∀ (k : NK) {v : V} {u : Value}, Dp X.K H v k.data → RelV v u → NestedIs s.heap k u
  | .none, v, u, d, r => by
    simp only [NestedKey.data] at d
    cases d
    cases r
    exact .none
  | .num i, v, u, d, r => by
    simp only [NestedKey.data] at d
    cases d
    obtain ⟨t, rfl⟩ := r
    exact .int i t
  | .text x, v, u, d, r => by
    simp only [NestedKey.data] at d
    cases d
    obtain ⟨t, rfl⟩ := r
    exact .text x t
  | .tup ks, v, u, d, r => by
    simp only [NestedKey.data] at d
    cases d with
    | tup h t =>
      cases r
      obtain ⟨its, rv, ⟨o, e, hc, n, hd⟩, hz⟩ := I.tuple h
      exact .tup e hc hd (nested_all I ks t rv)
theorem nested_all (I : Inv X pins σ H s) : ∀ (ks : List NK) {vs : List V} {us : List Value}, DpAll X.K H vs (NestedKey.datas ks) → Vals vs us → NestedAll s.heap ks us
  | [], vs, us, d, r => by
    simp only [NestedKey.datas] at d
    cases d
    cases r
    exact .nil
  | k :: ks, vs, us, d, r => by
    simp only [NestedKey.datas] at d
    cases d with
    | cons d1 d2 =>
      cases r with
      | cons r1 r2 => exact .cons (nested_is I k d1 r1) (nested_all I ks d2 r2)
end
end
/-- the keys of a dict stand in the heap -/
def KeysD (K : PySem.W.Frag) (H : Hp) (kvs : NKs) : Prop := ∀ p ∈ kvs, Dp K H (.ref p.2.1) p.1.data ∧ p.1.depth ≤ 8
def DGN [Wd] (K : PySem.W.Frag) (H : Hp) (a : Addr) (y : V) (r : Option V) : Prop :=
  (∃ kvs k, H a = some (.dK kvs) ∧ y = kV k ∧ r = valV kvs k) ∨ ∃ kvs k b, H a = some (DnO a kvs) ∧ y = .ref b ∧ Dp K H y k.data ∧ k.depth ≤ 8 ∧ KeysD K H kvs ∧ r = valN kvs k
def DPN [Wd] (K : PySem.W.Frag) (H : Hp) (a : Addr) (y v : V) (H' : Hp) : Prop :=
  (∃ kvs k, H a = some (.dK kvs) ∧ y = kV k ∧ kvs.length < sizeLine ∧ H' = upd H a (.dK (putK kvs k v))) ∨
  ∃ kvs k b, H a = some (DnO a kvs) ∧ y = .ref b ∧ Dp K H y k.data ∧ k.depth ≤ 8 ∧ KeysD K H kvs ∧ kvs.length < sizeLine ∧ H' = upd H a (DnO a (putN kvs k b v))
section
variable [Wd] {X : Cx} {pins : List (Addr × Obj)} {σ : L2.St} {H : Hp} {s : Shared} {a : Addr} {y v : V} {u r : Value} {o : Option V} {A : Around} {E : Value → Shared → Prop}
theorem dn_of {kvs : NKs} (hW : WdOk X) (I : Inv X pins σ H s) (e : H a = some (DnO a kvs)) (hk : KeysD X.K H kvs) :
    kvs.length ≤ sizeLine ∧ (a == sysModules) = false ∧ ∃ xs, NKV kvs xs ∧ s.heap.DictOfH (nestedKind X.prog X.w) a xs := by
  obtain ⟨h1, h2, xs, h3, h4, o, es, ep, h5, h6, h7, h8⟩ := dnO_at I.hok e
  rw [← hW.p, ← hW.w] at h8
  refine ⟨h1, h2, xs, h3, o, es, ep, h5, h6, h7, h8, fun x hx => ?_, h4⟩
  obtain ⟨i, hi⟩ := List.mem_iff_getElem?.mp hx
  have : ∀ {kvs : NKs} {xs : List (NK × Addr × Value)} {i : Nat}, NKV kvs xs → xs[i]? = some x → ∃ p ∈ kvs, p.1 = x.1 ∧ p.2.1 = x.2.1 := by
    intro kvs xs i r
    induction r generalizing i with
    | nil => intro e; simp at e
    | cons q t ih =>
      cases i with
      | zero =>
        intro e
        simp at e
        subst e
        exact ⟨_, List.mem_cons_self .., q.1, q.2.1⟩
      | succ i =>
        intro e
        obtain ⟨p, hp, z⟩ := ih (i := i) (by simpa using e)
        exact ⟨p, List.mem_cons_of_mem _ hp, z⟩
  obtain ⟨p, hp, e1, e2⟩ := this h3 hi
  obtain ⟨d, hd⟩ := hk p hp
  rw [← e1, ← e2]
  exact ⟨nested_is I p.1 d rfl, hd⟩
theorem room8 (hu : A.units + 9 < cLine) : (nestedKind X.prog X.w).room A.in1 := by
  show A.in1.units + 8 < cLine
  have : A.in1.units = A.units + 1 := rfl
  omega
theorem dn_getItem {Q : Value → Shared → Prop} (hW : WdOk X) (hu : A.units + 9 < cLine) (I : Inv X pins σ H s) (g : DGN X.K H a y (some v)) (ry : RelV y u) (h : ∀ w' s', Inv X pins σ H s' → RelV v w' → Q w' s') :
    wpAny (model X.prog X.w) A (getItem (.ref a) u) Q E s := by
  rcases g with ⟨kvs, k, e, ey, l⟩ | ⟨kvs, k, b, e, ey, d, hd, hk, l⟩
  · exact d_getItem (by omega) I (.inl ⟨kvs, k, .inl e, ey, l⟩) ry h
  · subst ey
    cases (show u = Value.ref b from ry)
    obtain ⟨z, hm, xs, rel, dd⟩ := dn_of hW I e hk
    obtain ⟨w', hw, rw'⟩ := RelO.some_of (v := v) (o := (atKey xs k).map (·.2)) (by rw [l]; exact rel.val k)
    obtain ⟨p, hp, hp2⟩ := Option.map_eq_some_iff.mp hw
    refine wpAny_getItem_heap (room8 hu) ⟨nested_is I k d rfl, hd⟩ dd hp ?_
    rw [hp2]
    exact h w' _ (I.tok _) rw'
theorem dn_in {Q : Value → Shared → Prop} (hW : WdOk X) (hu : A.units + 9 < cLine) (I : Inv X pins σ H s) (g : DGN X.K H a y o) (ry : RelV y u) (h : ∀ s', Inv X pins σ H s' → Q (.bool o.isSome) s') :
    wpAny (model X.prog X.w) A (compareOp .In u (.ref a)) Q E s := by
  rcases g with ⟨kvs, k, e, ey, l⟩ | ⟨kvs, k, b, e, ey, d, hd, hk, l⟩
  · exact d_in (by omega) I (.inl ⟨kvs, k, .inl e, ey, l⟩) ry h
  · subst ey
    cases (show u = Value.ref b from ry)
    obtain ⟨z, hm, xs, rel, dd⟩ := dn_of hW I e hk
    refine wpAny_in_heap (room8 hu) ⟨nested_is I k d rfl, hd⟩ hm dd ?_
    have q := (rel.val k).isSome_eq
    rw [Option.isSome_map] at q
    rw [← q, ← l]
    exact h _ (I.tok _)
theorem dn_notIn {Q : Value → Shared → Prop} (hW : WdOk X) (hu : A.units + 9 < cLine) (I : Inv X pins σ H s) (g : DGN X.K H a y o) (ry : RelV y u) (h : ∀ s', Inv X pins σ H s' → Q (.bool (!o.isSome)) s') :
    wpAny (model X.prog X.w) A (compareOp .NotIn u (.ref a)) Q E s := by
  rcases g with ⟨kvs, k, e, ey, l⟩ | ⟨kvs, k, b, e, ey, d, hd, hk, l⟩
  · exact d_notIn (by omega) I (.inl ⟨kvs, k, .inl e, ey, l⟩) ry h
  · subst ey
    cases (show u = Value.ref b from ry)
    obtain ⟨z, hm, xs, rel, dd⟩ := dn_of hW I e hk
    refine wpAny_notIn_heap (room8 hu) ⟨nested_is I k d rfl, hd⟩ hm dd ?_
    have q := (rel.val k).isSome_eq
    rw [Option.isSome_map] at q
    rw [← q, ← l]
    exact h _ (I.tok _)
theorem dn_new {P : Program} {w : World} {H' : Hp} {h' : Heap} {kvs : NKs} {xs : List (NK × Addr × Value)} (hW : WdOk X) (z : kvs.length ≤ sizeLine) (hm : (a == sysModules) = false) (rel : NKV kvs xs) (dd : h'.DictOfH (nestedKind X.prog X.w) a xs) :
    ObjOk P w H' h' a (DnO a kvs) := by
  obtain ⟨o, es, ep, h5, h6, h7, h8, _, h9⟩ := dd
  rw [hW.p, hW.w] at h8
  exact dnO_ok ⟨z, hm, xs, rel, h9, o, es, ep, h5, h6, h7, h8⟩
theorem dn_setItem {H' : Hp} {Q : Unit → Shared → Prop} (hW : WdOk X) (hu : A.units + 9 < cLine) (I : Inv X pins σ H s) (g : DPN X.K H a y v H') (ry : RelV y u) (rv : RelV v r) (h : ∀ s', Inv X pins σ H' s' → Q () s') :
    wpAny (model X.prog X.w) A (setItem (.ref a) u r) Q E s := by
  rcases g with ⟨kvs, k, e, ey, l, eH⟩ | ⟨kvs, k, b, e, ey, d, hd, hk, l, eH⟩
  · exact d_setItem (by omega) I (.inl ⟨kvs, k, e, ey, l, eH⟩) ry rv h
  · subst ey eH
    cases (show u = Value.ref b from ry)
    obtain ⟨z, hm, xs, rel, dd⟩ := dn_of hW I e hk
    have hz : xs.length ≤ sizeLine := by rw [← rel.len]; exact z
    have hl : (putN kvs k b v).length ≤ sizeLine := by have := length_putN kvs k b v; omega
    refine wpAny_setItem_heap (hsz := hz) (room8 hu) ⟨nested_is I k d rfl, hd⟩ dd fun h' dd' hs => h _ ?_
    have he : ∃ q, h'.get? a = some q := let ⟨q, _, _, hq, _⟩ := dd'; ⟨q, hq⟩
    exact d_write I (by rw [e]; exact True.intro) hs he (dn_new hW hl hm (rel.put k b rv) dd')
theorem dn_type {o : Option V} (I : Inv X pins σ H s) (g : DGN X.K H a y o) : s.TypeIs (.ref a) "dict" := by
  rcases g with ⟨kvs, k, e, _, _⟩ | ⟨kvs, k, b, e, _, _⟩
  · obtain ⟨_, _, vs, _, dd⟩ := dk_rd I.hok (.inl e)
    exact dd.typeIs
  · obtain ⟨_, _, xs, _, _, ob, _, _, h1, h2, _⟩ := dnO_at I.hok e
    exact ⟨ob, h1, h2.1⟩
end
/-! ### rules -/
section
variable [Wd] {X : Cx}
def rDIx [Wd] (K : PySem.W.Frag) : R2 := fun x y H Q => ∃ a v, x = .ref a ∧ DGN K H a y (some v) ∧ Q v H
def rDIn [Wd] (K : PySem.W.Frag) : R2 := fun y x H Q => ∃ a o, x = .ref a ∧ DGN K H a y o ∧ Q (.bl o.isSome) H
def rDNi [Wd] (K : PySem.W.Frag) : R2 := fun y x H Q => ∃ a o, x = .ref a ∧ DGN K H a y o ∧ Q (.bl (!o.isSome)) H
def rDSet [Wd] (K : PySem.W.Frag) : V → V → V → Hp → (Hp → Prop) → Prop := fun o i v H Q => ∃ a H', o = .ref a ∧ DPN K H a i v H' ∧ Q H'
theorem ix_dictN (hW : WdOk X) (hu : X.A.units + 9 < cLine) : IxR X (rDIx X.K) := by
  intro value slice pins s σ H x y v u Q I rx ry h hs
  obtain ⟨a, z, rfl, g, q⟩ := h
  cases rx
  exact tail_any (dn_type I g) PySem.F.slot_dict_getitem.lookup (dn_getItem hW hu I g ry fun w' s3 I3 rw' => ⟨z, H, I3, rw', q⟩) hs
theorem op_inDN (hW : WdOk X) (hu : X.A.units + 9 < cLine) : OpR X (compareOp .In) (rDIn X.K) := by
  intro pins s σ H x y v u Q I rx ry h
  obtain ⟨a, o, rfl, g, q⟩ := h
  cases ry
  exact dn_in hW hu I g rx fun s' I' => ⟨.bl o.isSome, H, I', rfl, q⟩
theorem op_niDN (hW : WdOk X) (hu : X.A.units + 9 < cLine) : OpR X (compareOp .NotIn) (rDNi X.K) := by
  intro pins s σ H x y v u Q I rx ry h
  obtain ⟨a, o, rfl, g, q⟩ := h
  cases ry
  exact dn_notIn hW hu I g rx fun s' I' => ⟨.bl (!o.isSome), H, I', rfl, q⟩
theorem set_dictN (hW : WdOk X) (hu : X.A.units + 9 < cLine) : PSet X (rDSet X.K) := by
  intro pins s σ H o i v ov iv u Q I ro ri rv h
  obtain ⟨a, H', rfl, g, q⟩ := h
  cases ro
  exact dn_setItem hW hu I g ri rv fun s' I' => ⟨H', I', q⟩
def tDNewN [Wd] : TE := fun _ H Q => ∀ p, H p = none → Q (.ref p) (upd H p (DnO p []))
theorem pe_dnewN {pos : Pos} (hW : WdOk X) : PE X (.Dict [] [] pos) tDNewN := ⟨fun pins s σ H Q I h =>
  wpAny_Dict_empty ⟨.ref s.heap.objs.size, _, I.laid (a := s.heap.objs.size) (o := DnO s.heap.objs.size []) (t' := s.toks) (fun _ _ q => Heap.get?_push_of_some _ q) (Nat.le_refl _)
    (dnO_ok ⟨Nat.zero_le _, beq_eq_false_iff_ne.mpr (Ne.symm (Nat.ne_of_lt I.big)), [], .nil, List.nodup_nil, _, #[], 0, Heap.get?_push_size _ rfl, ⟨rfl, rfl, rfl⟩, rfl, rfl⟩), rfl, h _ (I.hok.fresh (Nat.le_refl _))⟩⟩
end
end DL

set_option Elab.async false
set_option linter.all false
set_option maxRecDepth 100000
set_option maxHeartbeats 2000000
namespace DL
open PySem PySem.Spec PyProof.Rows L2

/-! ### lists in pairs -/
section
variable {α β γ : Type} {R S : α → β → Prop}
theorem pr_mono (f : ∀ a b, R a b → S a b) : ∀ {xs : List α} {ys : List β}, Paired R xs ys → Paired S xs ys
  | _, _, .nil => .nil
  | _, _, .cons r t => .cons (f _ _ r) (pr_mono f t)
theorem pr_len : ∀ {xs : List α} {ys : List β}, Paired R xs ys → xs.length = ys.length
  | _, _, .nil => rfl
  | _, _, .cons _ t => congrArg (· + 1) (pr_len t)
theorem pr_get : ∀ {xs : List α} {ys : List β} {i : Nat} {y : β}, Paired R xs ys → ys[i]? = some y → ∃ x, xs[i]? = some x ∧ R x y
  | _, _, _, _, .nil, e => by simp at e
  | _, _, 0, _, .cons r _, e => by simp at e; subst e; exact ⟨_, rfl, r⟩
  | _, _, i + 1, y, .cons _ t, e => by
    obtain ⟨u, h1, h2⟩ := pr_get (i := i) (y := y) t (by simpa using e)
    exact ⟨u, by simpa using h1, h2⟩
theorem pr_getL : ∀ {xs : List α} {ys : List β} {i : Nat} {x : α}, Paired R xs ys → xs[i]? = some x → ∃ y, ys[i]? = some y ∧ R x y
  | _, _, _, _, .nil, e => by simp at e
  | _, _, 0, _, .cons r _, e => by simp at e; subst e; exact ⟨_, rfl, r⟩
  | _, _, i + 1, x, .cons _ t, e => by
    obtain ⟨u, h1, h2⟩ := pr_getL (i := i) (x := x) t (by simpa using e)
    exact ⟨u, by simpa using h1, h2⟩
theorem pr_set {x : α} {y : β} (r : R x y) : ∀ {xs : List α} {ys : List β} (i : Nat), Paired R xs ys → Paired R (xs.set i x) (ys.set i y)
  | _, _, _, .nil => .nil
  | _, _, 0, .cons _ t => .cons r t
  | _, _, i + 1, .cons q t => .cons q (pr_set r i t)
theorem pr_app : ∀ {xs : List α} {ys : List β} {us : List α} {ws : List β}, Paired R xs ys → Paired R us ws → Paired R (xs ++ us) (ys ++ ws)
  | _, _, _, _, .nil, s => s
  | _, _, _, _, .cons r t, s => .cons r (pr_app t s)
theorem pr_take : ∀ {xs : List α} {ys : List β} (n : Nat), Paired R xs ys → Paired R (xs.take n) (ys.take n)
  | _, _, 0, _ => .nil
  | _, _, _ + 1, .nil => .nil
  | _, _, n + 1, .cons r t => .cons r (pr_take n t)
theorem pr_drop : ∀ {xs : List α} {ys : List β} (n : Nat), Paired R xs ys → Paired R (xs.drop n) (ys.drop n)
  | _, _, 0, r => r
  | _, _, _ + 1, .nil => .nil
  | _, _, n + 1, .cons _ t => pr_drop n t
theorem pr_rev : ∀ {xs : List α} {ys : List β}, Paired R xs ys → Paired R xs.reverse ys.reverse
  | _, _, .nil => .nil
  | _, _, .cons r t => by
    rw [List.reverse_cons, List.reverse_cons]
    exact pr_app (pr_rev t) (.cons r .nil)
theorem pr_rep {x : α} {y : β} (r : R x y) : ∀ n : Nat, Paired R (List.replicate n x) (List.replicate n y)
  | 0 => .nil
  | n + 1 => .cons r (pr_rep r n)
theorem pr_flat : ∀ {xss : List (List α)} {yss : List (List β)}, Paired (Paired R) xss yss → Paired R xss.flatten yss.flatten
  | _, _, .nil => .nil
  | _, _, .cons r t => pr_app r (pr_flat t)
theorem pr_nilR {xs : List α} (h : Paired R xs []) : xs = [] := by cases h; rfl
theorem pr_nilL {ys : List β} (h : Paired R [] ys) : ys = [] := by cases h; rfl
theorem pr_map {f : α → γ} {T : γ → β → Prop} (hf : ∀ a b, R a b → T (f a) b) : ∀ {xs : List α} {ys : List β}, Paired R xs ys → Paired T (xs.map f) ys
  | _, _, .nil => .nil
  | _, _, .cons r t => .cons (hf _ _ r) (pr_map hf t)
end

/-! ### heaps that grow -/
def Ex (H H' : Hp) : Prop := ∀ a o, H a = some o → H' a = some o
theorem Ex.refl (H : Hp) : Ex H H := fun _ _ h => h
theorem Ex.trans {H H1 H2 : Hp} (a : Ex H H1) (b : Ex H1 H2) : Ex H H2 := fun x o h => b x o (a x o h)
theorem Ex.new {H : Hp} {p : Addr} {o : HO} (h : H p = none) : Ex H (upd H p o) := fun a u e => by
  rw [upd_ne (ne_of_none e h)]
  exact e
theorem Ex.upd2 {F H : Hp} {p : Addr} {o : HO} (e : Ex F H) : Ex (upd F p o) (upd H p o) := fun a u h => by
  by_cases q : a = p
  · subst q
    rw [upd_same] at h ⊢
    exact h
  · rw [upd_ne q] at h ⊢
    exact e a u h
theorem Ex.un {F H : Hp} {p : Addr} (e : Ex F H) (h : H p = none) : F p = none := by
  cases q : F p with
  | none => rfl
  | some o =>
    rw [e p o q] at h
    cases h
theorem Ex.updR {F H : Hp} {p : Addr} {o : HO} (e : Ex F H) (h : F p = none) : Ex F (upd H p o) := fun a u q => by
  rw [upd_ne (ne_of_none q h)]
  exact e a u q
theorem ex_rd {H H' : Hp} {a : Addr} {u : HO} (e : Ex H H') (h : Rd H a u) : Rd H' a u := by
  rcases h with h | ⟨o, h⟩
  · exact Or.inl (e a _ h)
  · exact Or.inr ⟨o, e a _ h⟩
theorem ex_l {K : PySem.W.Frag} {H H' : Hp} {a : Addr} {xs : List V} (e : Ex H H') (h : SqL K H a xs) : SqL K H' a xs := by
  rcases h with h | h
  · exact Or.inl (ex_rd e h)
  · exact Or.inr h
theorem ex_t {K : PySem.W.Frag} {H H' : Hp} {a : Addr} {xs : List V} (e : Ex H H') (h : SqT K H a xs) : SqT K H' a xs := by
  rcases h with h | h
  · exact Or.inl (ex_rd e h)
  · exact Or.inr h
mutual
theorem dp_ex {K : PySem.W.Frag} {H H' : Hp} (e : Ex H H') : ∀ {v : V} {x : PyData}, Dp K H v x → Dp K H' v x
  | _, _, .non => .non
  | _, _, .bl b => .bl b
  | _, _, .int i => .int i
  | _, _, .str x => .str x
  | _, _, .lst h t => .lst (ex_l e h) (dpAll_ex e t)
  | _, _, .tup h t => .tup (ex_t e h) (dpAll_ex e t)
theorem dpAll_ex {K : PySem.W.Frag} {H H' : Hp} (e : Ex H H') : ∀ {vs : List V} {xs : List PyData}, DpAll K H vs xs → DpAll K H' vs xs
  | _, _, .nil => .nil
  | _, _, .cons h t => .cons (dp_ex e h) (dpAll_ex e t)
end
theorem dpAll_pr {K : PySem.W.Frag} {H : Hp} : ∀ {vs : List V} {xs : List PyData}, DpAll K H vs xs → Paired (Dp K H) vs xs
  | _, _, .nil => .nil
  | _, _, .cons h t => .cons h (dpAll_pr t)
theorem pr_dpAll {K : PySem.W.Frag} {H : Hp} : ∀ {vs : List V} {xs : List PyData}, Paired (Dp K H) vs xs → DpAll K H vs xs
  | _, _, .nil => .nil
  | _, _, .cons h t => .cons h (pr_dpAll t)

/-! ### the plain store -/
/-- a worth: plain data; the cell of a store; any other value as it is -/
inductive W where
  | d (x : PyData)
  | p (n : Nat)
  | r (v : V)
abbrev W.i (n : Int) : W := .d (.int n)
abbrev W.b (x : Bool) : W := .d (.bool x)
abbrev W.s (x : Str) : W := .d (.str x)
/-- what may be changed -/
inductive Cell where
  | gone
  | lst (xs : List W)
  | ins (C : Addr) (fs : List (Str × W))
  /-- a dict whose keys are ints and texts; one whose keys are tuples of data -/
  | dk (kvs : List (Key × W))
  | dn (kvs : List (NK × W))
abbrev Mu := List Cell
/-- the frame's names -/
abbrev Dl := List (Option W)

variable [Wd]
def VW (K : PySem.W.Frag) (F : Hp) (ρ : List Addr) (v : V) (w : W) : Prop := match w with
  | .d x => Dp K F v x
  | .p n => ∃ a, ρ[n]? = some a ∧ v = .ref a
  | .r u => v = u
def FW (K : PySem.W.Frag) (F : Hp) (ρ : List Addr) (p : Str × V) (q : Str × W) : Prop := p.1 = q.1 ∧ VW K F ρ p.2 q.2
def KW (K : PySem.W.Frag) (F : Hp) (ρ : List Addr) (p : Key × V) (q : Key × W) : Prop := p.1 = q.1 ∧ VW K F ρ p.2 q.2
def NW (K : PySem.W.Frag) (F : Hp) (ρ : List Addr) (p : NK × Addr × V) (q : NK × W) : Prop := p.1 = q.1 ∧ VW K F ρ p.2.2 q.2
def CellOk (K : PySem.W.Frag) (F : Hp) (ρ : List Addr) (H : Hp) (a : Addr) (c : Cell) : Prop := match c with
  | .gone => True
  | .lst xs => F a = none ∧ ∃ vs, H a = some (.lst vs) ∧ Paired (VW K F ρ) vs xs
  | .ins C fs => F a = none ∧ ∃ dx fv, H a = some (.ins C dx fv) ∧ Paired (FW K F ρ) fv fs
  | .dk ks => F a = none ∧ ∃ vs, H a = some (.dK vs) ∧ Paired (KW K F ρ) vs ks
  | .dn ks => F a = none ∧ ∃ vs, H a = some (DnO a vs) ∧ KeysD K F vs ∧ Paired (NW K F ρ) vs ks
structure Ok (K : PySem.W.Frag) (F : Hp) (ρ : List Addr) (H : Hp) (μ : Mu) : Prop where
  ex : Ex F H
  len : ρ.length = μ.length
  nd : ρ.Nodup
  tr : ∀ a, a ∈ ρ → H a ≠ none
  ce : ∀ (n : Nat) (a : Addr) (c : Cell), ρ[n]? = some a → μ[n]? = some c → CellOk K F ρ H a c
structure Go (F : Hp) (ρ : List Addr) (H : Hp) (F' : Hp) (ρ' : List Addr) (H' : Hp) : Prop where
  ex : Ex F F'
  pre : ∃ t, ρ' = ρ ++ t
  fr : ∀ b o, H b = some o → b ∉ ρ → H' b = some o
  nw : ∀ b, b ∈ ρ' → b ∈ ρ ∨ H b = none
  nf : ∀ b, F' b ≠ none → F b ≠ none ∨ H b = none ∨ b ∈ ρ
  tr : ∀ b, H b ≠ none → H' b ≠ none
def Sl (K : PySem.W.Frag) (F : Hp) (ρ : List Addr) (σ : L2.St) (δ : Dl) : Prop := Paired (fun (s : Option V) (w : Option W) => ∀ x, w = some x → ∃ v, s = some v ∧ VW K F ρ v x) σ δ

section
variable {K : PySem.W.Frag} {F F' F'' H H' H'' : Hp} {ρ ρ' ρ'' : List Addr} {μ μ' : Mu} {σ : L2.St} {δ : Dl} {v u : V} {w x : W}
theorem Go.refl : Go F ρ H F ρ H := ⟨Ex.refl F, ⟨[], by simp⟩, fun _ _ h _ => h, fun _ h => .inl h, fun _ h => .inl h, fun _ h => h⟩
theorem Go.trans (a : Go F ρ H F' ρ' H') (b : Go F' ρ' H' F'' ρ'' H'') : Go F ρ H F'' ρ'' H'' := by
  obtain ⟨t, e⟩ := a.pre
  obtain ⟨t', e'⟩ := b.pre
  have back : ∀ c, H' c = none → H c = none := fun c h => by
    cases q : H c with
    | none => rfl
    | some o => exact absurd h (a.tr c (by rw [q]; intro z; cases z))
  refine ⟨a.ex.trans b.ex, ⟨t ++ t', by rw [e', e, List.append_assoc]⟩, fun c o h hc => ?_, fun c hc => ?_, fun c hc => ?_, fun c h => b.tr c (a.tr c h)⟩
  · refine b.fr c o (a.fr c o h hc) fun z => ?_
    rcases a.nw c z with q | q
    · exact hc q
    · rw [q] at h
      cases h
  · rcases b.nw c hc with q | q
    · exact a.nw c q
    · exact .inr (back c q)
  · rcases b.nf c hc with q | q | q
    · exact a.nf c q
    · exact .inr (.inl (back c q))
    · rcases a.nw c q with z | z
      · exact .inr (.inr z)
      · exact .inr (.inl z)
theorem Go.at (g : Go F ρ H F' ρ' H') {n : Nat} {a : Addr} (h : ρ[n]? = some a) : ρ'[n]? = some a := by
  obtain ⟨t, e⟩ := g.pre
  obtain ⟨q, _⟩ := List.getElem?_eq_some_iff.mp h
  rw [e, List.getElem?_append_left q]
  exact h
theorem vw_go (g : Go F ρ H F' ρ' H') (h : VW K F ρ v w) : VW K F' ρ' v w := by
  cases w with
  | d x => exact dp_ex g.ex h
  | p n =>
    obtain ⟨a, e, q⟩ := h
    exact ⟨a, g.at e, q⟩
  | r u => exact h
theorem vws_go (g : Go F ρ H F' ρ' H') {vs : List V} {ws : List W} (h : Paired (VW K F ρ) vs ws) : Paired (VW K F' ρ') vs ws := pr_mono (fun _ _ => vw_go g) h
theorem fws_go (g : Go F ρ H F' ρ' H') {vs : List (Str × V)} {ws : List (Str × W)} (h : Paired (FW K F ρ) vs ws) : Paired (FW K F' ρ') vs ws := pr_mono (fun _ _ q => ⟨q.1, vw_go g q.2⟩) h
theorem kws_go (g : Go F ρ H F' ρ' H') {vs : List (Key × V)} {ws : List (Key × W)} (h : Paired (KW K F ρ) vs ws) : Paired (KW K F' ρ') vs ws := pr_mono (fun _ _ q => ⟨q.1, vw_go g q.2⟩) h
theorem nws_go (g : Go F ρ H F' ρ' H') {vs : NKs} {ws : List (NK × W)} (h : Paired (NW K F ρ) vs ws) : Paired (NW K F' ρ') vs ws := pr_mono (fun _ _ q => ⟨q.1, vw_go g q.2⟩) h
theorem keysD_ex {vs : NKs} (e : Ex F F') (h : KeysD K F vs) : KeysD K F' vs := fun p hp => ⟨dp_ex e (h p hp).1, (h p hp).2⟩
theorem sl_go (g : Go F ρ H F' ρ' H') (h : Sl K F ρ σ δ) : Sl K F' ρ' σ δ := pr_mono (fun _ _ q x e => let ⟨v, a, b⟩ := q x e; ⟨v, a, vw_go g b⟩) h
theorem sl_get {i : Nat} (h : Sl K F ρ σ δ) (e : δ[i]? = some (some w)) : ∃ v, σ[i]? = some (some v) ∧ VW K F ρ v w := by
  obtain ⟨s, e1, q⟩ := pr_get h e
  obtain ⟨v, rfl, q2⟩ := q w rfl
  exact ⟨v, e1, q2⟩
theorem sl_set {i : Nat} (h : Sl K F ρ σ δ) (q : VW K F ρ v w) : Sl K F ρ (σ.set i (some v)) (δ.set i (some w)) := pr_set (fun x e => ⟨v, rfl, by cases e; exact q⟩) i h
theorem sl_un {i : Nat} {s : Option V} (h : Sl K F ρ σ δ) : Sl K F ρ (σ.set i s) (δ.set i none) := pr_set (fun x e => nomatch e) i h
/-- a cell's address -/
theorem Ok.at (k : Ok K F ρ H μ) {n : Nat} {c : Cell} (h : μ[n]? = some c) : ∃ a, ρ[n]? = some a ∧ CellOk K F ρ H a c := by
  obtain ⟨q, _⟩ := List.getElem?_eq_some_iff.mp h
  have z : n < ρ.length := by rw [k.len]; exact q
  exact ⟨ρ[n], List.getElem?_eq_getElem z, k.ce n _ c (List.getElem?_eq_getElem z) h⟩
theorem Ok.free (k : Ok K F ρ H μ) {p : Addr} (h : H p = none) : F p = none ∧ p ∉ ρ := ⟨k.ex.un h, fun z => k.tr p z h⟩
/-- frozen things grow -/
theorem cell_ex (e : Ex F F') {a : Addr} {c : Cell} (hF : F' a = F a) (h : CellOk K F ρ H a c) (hH : H' a = H a) : CellOk K F' ρ H' a c := by
  have vw : ∀ v w, VW K F ρ v w → VW K F' ρ v w := fun v w q => by
    cases w with
    | d x => exact dp_ex e q
    | p n => exact q
    | r u => exact q
  cases c with
  | gone => trivial
  | lst xs =>
    obtain ⟨h1, vs, h2, h3⟩ := h
    exact ⟨hF.trans h1, vs, hH.trans h2, pr_mono vw h3⟩
  | ins C fs =>
    obtain ⟨h1, dx, fv, h2, h3⟩ := h
    exact ⟨hF.trans h1, dx, fv, hH.trans h2, pr_mono (fun _ _ q => ⟨q.1, vw _ _ q.2⟩) h3⟩
  | dk ks =>
    obtain ⟨h1, vs, h2, h3⟩ := h
    exact ⟨hF.trans h1, vs, hH.trans h2, pr_mono (fun _ _ q => ⟨q.1, vw _ _ q.2⟩) h3⟩
  | dn ks =>
    obtain ⟨h1, vs, h2, h4, h3⟩ := h
    exact ⟨hF.trans h1, vs, hH.trans h2, keysD_ex e h4, pr_mono (fun _ _ q => ⟨q.1, vw _ _ q.2⟩) h3⟩
/-- a new frozen object -/
theorem Ok.freeze (k : Ok K F ρ H μ) {p : Addr} {o : HO} (h : H p = none) : Ok K (upd F p o) ρ (upd H p o) μ ∧ Go F ρ H (upd F p o) ρ (upd H p o) := by
  obtain ⟨hF, hr⟩ := k.free h
  have ne : ∀ {a : Addr}, a ∈ ρ → a ≠ p := fun {a} z q => hr (q ▸ z)
  refine ⟨⟨k.ex.upd2, k.len, k.nd, fun a ha => ?_, fun n a c e1 e2 => ?_⟩, ⟨Ex.new hF, ⟨[], by simp⟩, fun b o' e _ => ?_, fun _ z => .inl z, fun b z => ?_, fun b z => ?_⟩⟩
  · rw [upd_ne (ne ha)]
    exact k.tr a ha
  · have m := ne (List.mem_of_getElem? e1)
    exact cell_ex (Ex.new hF) (upd_ne m) (k.ce n a c e1 e2) (upd_ne m)
  · rw [upd_ne (ne_of_none e h)]
    exact e
  · by_cases q : b = p
    · subst q
      exact .inr (.inl h)
    · rw [upd_ne q] at z
      exact .inl z
  · by_cases q : b = p
    · subst q
      rw [upd_same]
      intro z
      cases z
    · rw [upd_ne q]
      exact z
/-- a new cell -/
theorem Ok.push (k : Ok K F ρ H μ) {p : Addr} {o : HO} {c : Cell} (h : H p = none) (hc : CellOk K F (ρ ++ [p]) (upd H p o) p c) :
    Ok K F (ρ ++ [p]) (upd H p o) (μ ++ [c]) ∧ Go F ρ H F (ρ ++ [p]) (upd H p o) ∧ (ρ ++ [p])[μ.length]? = some p := by
  obtain ⟨hF, hr⟩ := k.free h
  have ne : ∀ {a : Addr}, a ∈ ρ → a ≠ p := fun {a} z q => hr (q ▸ z)
  have g : Go F ρ H F (ρ ++ [p]) (upd H p o) := by
    refine ⟨Ex.refl F, ⟨[p], rfl⟩, fun b o' e _ => ?_, fun b z => ?_, fun b z => .inl z, fun b z => ?_⟩
    · rw [upd_ne (ne_of_none e h)]
      exact e
    · rcases List.mem_append.mp z with z | z
      · exact .inl z
      · simp at z
        subst z
        exact .inr h
    · by_cases q : b = p
      · subst q
        rw [upd_same]
        intro z
        cases z
      · rw [upd_ne q]
        exact z
  have el : (ρ ++ [p])[μ.length]? = some p := by rw [← k.len]; simp
  refine ⟨⟨k.ex.updR hF, by simp [k.len], ?_, fun a ha => ?_, fun n a c' e1 e2 => ?_⟩, g, el⟩
  · exact List.nodup_append.mpr ⟨k.nd, by simp, fun a ha b hb e => by
      simp at hb
      subst hb
      exact ne ha e⟩
  · rcases List.mem_append.mp ha with z | z
    · rw [upd_ne (ne z)]
      exact k.tr a z
    · simp at z
      subst z
      rw [upd_same]
      intro z
      cases z
  · by_cases q : n < ρ.length
    · rw [List.getElem?_append_left q] at e1
      rw [List.getElem?_append_left (by rw [← k.len]; exact q)] at e2
      have m := ne (List.mem_of_getElem? e1)
      have old := k.ce n a c' e1 e2
      cases c' with
      | gone => trivial
      | lst xs =>
        obtain ⟨h1, vs, h2, h3⟩ := old
        exact ⟨h1, vs, by rw [upd_ne m]; exact h2, vws_go g h3⟩
      | ins C fs =>
        obtain ⟨h1, dx, fv, h2, h3⟩ := old
        exact ⟨h1, dx, fv, by rw [upd_ne m]; exact h2, fws_go g h3⟩
      | dk ks =>
        obtain ⟨h1, vs, h2, h3⟩ := old
        exact ⟨h1, vs, by rw [upd_ne m]; exact h2, kws_go g h3⟩
      | dn ks =>
        obtain ⟨h1, vs, h2, h4, h3⟩ := old
        exact ⟨h1, vs, by rw [upd_ne m]; exact h2, h4, nws_go g h3⟩
    · have q' : ρ.length ≤ n := Nat.le_of_not_lt q
      rw [List.getElem?_append_right q'] at e1
      rw [List.getElem?_append_right (by rw [← k.len]; exact q')] at e2
      have z : n - ρ.length = 0 := by
        cases y : n - ρ.length with
        | zero => rfl
        | succ m => rw [y] at e1; simp at e1
      have z2 : n - μ.length = 0 := by rw [← k.len]; exact z
      rw [z] at e1
      rw [z2] at e2
      simp at e1 e2
      subst e1
      subst e2
      exact hc
/-- a cell is written -/
theorem Ok.put (k : Ok K F ρ H μ) {n : Nat} {a : Addr} {o : HO} {c : Cell} (ha : ρ[n]? = some a) (hF : F a = none) (hc : CellOk K F ρ (upd H a o) a c) :
    Ok K F ρ (upd H a o) (μ.set n c) ∧ Go F ρ H F ρ (upd H a o) := by
  have hm : a ∈ ρ := List.mem_of_getElem? ha
  refine ⟨⟨k.ex.updR hF, by simp [k.len], k.nd, fun b hb => ?_, fun m b c' e1 e2 => ?_⟩, ⟨Ex.refl F, ⟨[], by simp⟩, fun b o' e z => ?_, fun _ z => .inl z, fun b z => .inl z, fun b z => ?_⟩⟩
  · by_cases q : b = a
    · subst q
      rw [upd_same]
      intro z
      cases z
    · rw [upd_ne q]
      exact k.tr b hb
  · by_cases q : m = n
    · subst q
      rw [ha] at e1
      cases e1
      have l : m < μ.length := by
        obtain ⟨l, _⟩ := List.getElem?_eq_some_iff.mp ha
        rw [← k.len]
        exact l
      rw [List.getElem?_set_self l] at e2
      cases e2
      exact hc
    · rw [List.getElem?_set_ne (Ne.symm q)] at e2
      have nb : b ≠ a := fun z => q (by
        subst z
        exact nd_ix k.nd e1 ha)
      exact cell_ex (Ex.refl F) rfl (k.ce m b c' e1 e2) (upd_ne nb)
  · rw [upd_ne (fun q => z (by rw [q]; exact hm))]
    exact e
  · by_cases q : b = a
    · subst q
      rw [upd_same]
      intro z
      cases z
    · rw [upd_ne q]
      exact z
end
end DL

set_option Elab.async false
set_option linter.all false
set_option maxRecDepth 100000
set_option maxHeartbeats 2000000
namespace DL
open PySem PySem.Spec PyProof.Rows L2
variable [Wd]

def Ev (K : PySem.W.Frag) (te : TE) (δ : Dl) (μ : Mu) (w : W) (μ' : Mu) : Prop :=
  ∀ (F : Hp) (ρ : List Addr) (H : Hp) (σ : L2.St) (Q : VK), Ok K F ρ H μ → Sl K F ρ σ δ →
    (∀ v F' ρ' H', Go F ρ H F' ρ' H' → Ok K F' ρ' H' μ' → VW K F' ρ' v w → Q v H') → te σ H Q
def EvT (K : PySem.W.Frag) (tt : TT) (δ : Dl) (μ : Mu) (b : Bool) (μ' : Mu) : Prop :=
  ∀ (F : Hp) (ρ : List Addr) (H : Hp) (σ : L2.St) (Q : Bool → Hp → Prop), Ok K F ρ H μ → Sl K F ρ σ δ →
    (∀ F' ρ' H', Go F ρ H F' ρ' H' → Ok K F' ρ' H' μ' → Q b H') → tt σ H Q
def EvA (K : PySem.W.Frag) (ta : TA) (δ : Dl) (μ : Mu) (ws : List W) (μ' : Mu) : Prop :=
  ∀ (F : Hp) (ρ : List Addr) (H : Hp) (σ : L2.St) (Q : List V → Hp → Prop), Ok K F ρ H μ → Sl K F ρ σ δ →
    (∀ vs F' ρ' H', Go F ρ H F' ρ' H' → Ok K F' ρ' H' μ' → Paired (VW K F' ρ') vs ws → Q vs H') → ta σ H Q
def EvO (K : PySem.W.Frag) (to : TO) (δ : Dl) (μ : Mu) (o : Option Int) (μ' : Mu) : Prop :=
  ∀ (F : Hp) (ρ : List Addr) (H : Hp) (σ : L2.St) (Q : Option Int → Hp → Prop), Ok K F ρ H μ → Sl K F ρ σ δ →
    (∀ F' ρ' H', Go F ρ H F' ρ' H' → Ok K F' ρ' H' μ' → Q o H') → to σ H Q
/-- by values: two, a list -/
def RV (K : PySem.W.Frag) (r : R2) (x y : W) (μ : Mu) (z : W) (μ' : Mu) : Prop :=
  ∀ (F : Hp) (ρ : List Addr) (H : Hp) (v u : V) (Q : VK), Ok K F ρ H μ → VW K F ρ v x → VW K F ρ u y →
    (∀ v' F' ρ' H', Go F ρ H F' ρ' H' → Ok K F' ρ' H' μ' → VW K F' ρ' v' z → Q v' H') → r v u H Q
def RC (K : PySem.W.Frag) (r : List V → Hp → VK → Prop) (ws : List W) (μ : Mu) (z : W) (μ' : Mu) : Prop :=
  ∀ (F : Hp) (ρ : List Addr) (H : Hp) (vs : List V) (Q : VK), Ok K F ρ H μ → Paired (VW K F ρ) vs ws →
    (∀ v' F' ρ' H', Go F ρ H F' ρ' H' → Ok K F' ρ' H' μ' → VW K F' ρ' v' z → Q v' H') → r vs H Q
def RM (K : PySem.W.Frag) (r : V → List V → Hp → VK → Prop) (x : W) (ws : List W) (μ : Mu) (z : W) (μ' : Mu) : Prop :=
  ∀ (F : Hp) (ρ : List Addr) (H : Hp) (v : V) (vs : List V) (Q : VK), Ok K F ρ H μ → VW K F ρ v x → Paired (VW K F ρ) vs ws →
    (∀ v' F' ρ' H', Go F ρ H F' ρ' H' → Ok K F' ρ' H' μ' → VW K F' ρ' v' z → Q v' H') → r v vs H Q
def RU (K : PySem.W.Frag) (r : V → Hp → VK → Prop) (x : W) (μ : Mu) (z : W) (μ' : Mu) : Prop :=
  ∀ (F : Hp) (ρ : List Addr) (H : Hp) (v : V) (Q : VK), Ok K F ρ H μ → VW K F ρ v x →
    (∀ v' F' ρ' H', Go F ρ H F' ρ' H' → Ok K F' ρ' H' μ' → VW K F' ρ' v' z → Q v' H') → r v H Q

section
variable {K : PySem.W.Frag} {δ : Dl} {μ μ1 μ2 μ3 μ' : Mu} {ta tb tc te : TE} {tt tu : TT} {x y z w : W} {ws : List W} {tl : TA} {r r' : R2}
/-! ### names, constants, parts in a row -/
theorem ev_var {i : Nat} (h : δ[i]? = some (some w)) : Ev K (tVar i) δ μ w μ := fun F ρ H σ Q k s q => by
  obtain ⟨v, e, hv⟩ := sl_get s h
  exact ⟨v, e, q v F ρ H Go.refl k hv⟩
theorem ev_int {i : Int} : Ev K (tC (.int i)) δ μ (.i i) μ := fun F ρ H σ Q k s q => q _ F ρ H Go.refl k (Dp.int i)
theorem ev_bl {b : Bool} : Ev K (tC (.bl b)) δ μ (.b b) μ := fun F ρ H σ Q k s q => q _ F ρ H Go.refl k (Dp.bl b)
theorem ev_str {b : Str} : Ev K (tC (.str b)) δ μ (.s b) μ := fun F ρ H σ Q k s q => q _ F ρ H Go.refl k (Dp.str b)
theorem ev_non : Ev K (tC .non) δ μ (.d .none) μ := fun F ρ H σ Q k s q => q _ F ρ H Go.refl k Dp.non
theorem ev_raw {v : V} : Ev K (tC v) δ μ (.r v) μ := fun F ρ H σ Q k s q => q _ F ρ H Go.refl k rfl
/-- a constant of the module: data that stands in the written part -/
theorem ev_con {v : V} {x : PyData} (h : ∀ F, Dp K F v x) : Ev K (tC v) δ μ (.d x) μ := fun F ρ H σ Q k s q => q _ F ρ H Go.refl k (h F)
theorem ev_op (ha : Ev K ta δ μ x μ1) (hb : Ev K tb δ μ1 y μ2) (hr : RV K r x y μ2 z μ3) : Ev K (tOp r ta tb) δ μ z μ3 := fun F ρ H σ Q k s q =>
  ha F ρ H σ _ k s fun v F1 ρ1 H1 g1 k1 e1 => hb F1 ρ1 H1 σ _ k1 (sl_go g1 s) fun u F2 ρ2 H2 g2 k2 e2 =>
    hr F2 ρ2 H2 v u Q k2 (vw_go g2 e1) e2 fun v' F3 ρ3 H3 g3 k3 e3 => q v' F3 ρ3 H3 ((g1.trans g2).trans g3) k3 e3
theorem ev_un {r : V → Hp → VK → Prop} (ha : Ev K ta δ μ x μ1) (hr : RU K r x μ1 z μ2) : Ev K (tUn r ta) δ μ z μ2 := fun F ρ H σ Q k s q =>
  ha F ρ H σ _ k s fun v F1 ρ1 H1 g1 k1 e1 => hr F1 ρ1 H1 v Q k1 e1 fun v' F3 ρ3 H3 g3 k3 e3 => q v' F3 ρ3 H3 (g1.trans g3) k3 e3
theorem ea_nil : EvA K tNil δ μ [] μ := fun F ρ H σ Q k s q => q [] F ρ H Go.refl k .nil
theorem ea_cons (ha : Ev K ta δ μ x μ1) (hb : EvA K tl δ μ1 ws μ2) : EvA K (tCons ta tl) δ μ (x :: ws) μ2 := fun F ρ H σ Q k s q =>
  ha F ρ H σ _ k s fun v F1 ρ1 H1 g1 k1 e1 => hb F1 ρ1 H1 σ _ k1 (sl_go g1 s) fun vs F2 ρ2 H2 g2 k2 e2 =>
    q (v :: vs) F2 ρ2 H2 (g1.trans g2) k2 (.cons (vw_go g2 e1) e2)
theorem eo_none : EvO K (fun _ H Q => Q none H) δ μ none μ := fun F ρ H σ Q k s q => q F ρ H Go.refl k
theorem ev_is (h : Ev K te δ μ x μ') (e : x = y) : Ev K te δ μ y μ' := e ▸ h
/-- a call of a value with values -/
theorem ev_cb {r : List V → Hp → VK → Prop} (ha : EvA K tl δ μ ws μ1) (hr : RC K r ws μ1 z μ2) : Ev K (tCB r tl) δ μ z μ2 := fun F ρ H σ Q k s q =>
  ha F ρ H σ _ k s fun vs F1 ρ1 H1 g1 k1 e1 => hr F1 ρ1 H1 vs Q k1 e1 fun v' F3 ρ3 H3 g3 k3 e3 => q v' F3 ρ3 H3 (g1.trans g3) k3 e3

/-! ### what data stands for -/
theorem vw_int {F : Hp} {ρ : List Addr} {v : V} {i : Int} (h : VW K F ρ v (.i i)) : v = .int i := by
  have h' : Dp K F v (.int i) := h
  cases h'
  rfl
theorem vw_b {F : Hp} {ρ : List Addr} {v : V} {i : Bool} (h : VW K F ρ v (.b i)) : v = .bl i := by
  have h' : Dp K F v (.bool i) := h
  cases h'
  rfl
theorem vw_s {F : Hp} {ρ : List Addr} {v : V} {i : Str} (h : VW K F ρ v (.s i)) : v = .str i := by
  have h' : Dp K F v (.str i) := h
  cases h'
  rfl
theorem vw_n {F : Hp} {ρ : List Addr} {v : V} (h : VW K F ρ v (.d .none)) : v = .non := by
  have h' : Dp K F v .none := h
  cases h'
  rfl
theorem vw_t {F : Hp} {ρ : List Addr} {v : V} {xs : List PyData} (h : VW K F ρ v (.d (.tuple xs))) : ∃ a vs, v = .ref a ∧ SqT K F a vs ∧ Paired (Dp K F) vs xs := by
  have h' : Dp K F v (.tuple xs) := h
  cases h' with
  | tup a b => exact ⟨_, _, rfl, a, dpAll_pr b⟩
theorem vw_l {F : Hp} {ρ : List Addr} {v : V} {xs : List PyData} (h : VW K F ρ v (.d (.list xs))) : ∃ a vs, v = .ref a ∧ SqL K F a vs ∧ Paired (Dp K F) vs xs := by
  have h' : Dp K F v (.list xs) := h
  cases h' with
  | lst a b => exact ⟨_, _, rfl, a, dpAll_pr b⟩
theorem wv_t {F : Hp} {ρ : List Addr} {a : Addr} {vs : List V} {xs : List PyData} (h : SqT K F a vs) (p : Paired (Dp K F) vs xs) : VW K F ρ (.ref a) (.d (.tuple xs)) := Dp.tup h (pr_dpAll p)
theorem wv_l {F : Hp} {ρ : List Addr} {a : Addr} {vs : List V} {xs : List PyData} (h : SqL K F a vs) (p : Paired (Dp K F) vs xs) : VW K F ρ (.ref a) (.d (.list xs)) := Dp.lst h (pr_dpAll p)
/-- a list, frozen or a cell: its items -/
inductive Its (μ : Mu) : W → List W → Prop
  | d (xs : List PyData) : Its μ (.d (.list xs)) (xs.map .d)
  | p {n : Nat} {xs : List W} : μ[n]? = some (.lst xs) → Its μ (.p n) xs
/-- .. a tuple too -/
inductive Seq (μ : Mu) : W → List W → Prop
  | l {w : W} {xs : List W} : Its μ w xs → Seq μ w xs
  | t (xs : List PyData) : Seq μ (.d (.tuple xs)) (xs.map .d)
theorem pr_dmap {F : Hp} {ρ : List Addr} : ∀ {vs : List V} {xs : List PyData}, Paired (Dp K F) vs xs → Paired (VW K F ρ) vs (xs.map .d)
  | _, _, .nil => .nil
  | _, _, .cons h t => .cons h (pr_dmap t)
theorem pr_dun {F : Hp} {ρ : List Addr} : ∀ {vs : List V} {xs : List PyData}, Paired (VW K F ρ) vs (xs.map .d) → Paired (Dp K F) vs xs
  | _, [], h => by
    have e := pr_nilR h
    subst e
    exact .nil
  | _, x :: xs, h => by
    cases h with
    | cons a b => exact .cons a (pr_dun b)
theorem its_get {F H : Hp} {ρ : List Addr} {v : V} {xs : List W} (k : Ok K F ρ H μ) (h : VW K F ρ v w) (i : Its μ w xs) : ∃ a vs, v = .ref a ∧ SqL K H a vs ∧ Paired (VW K F ρ) vs xs := by
  cases i with
  | d xs =>
    obtain ⟨a, vs, e, hs, p⟩ := vw_l h
    exact ⟨a, vs, e, ex_l k.ex hs, pr_dmap p⟩
  | p e =>
    obtain ⟨a, e1, e2⟩ := h
    obtain ⟨b, e3, _, vs, e4, e5⟩ := k.at e
    rw [e1] at e3
    cases e3
    exact ⟨a, vs, e2, SqL.of e4, e5⟩
theorem seq_get {F H : Hp} {ρ : List Addr} {v : V} {xs : List W} (k : Ok K F ρ H μ) (h : VW K F ρ v w) (i : Seq μ w xs) : ∃ a vs, v = .ref a ∧ (SqL K H a vs ∨ SqT K H a vs) ∧ Paired (VW K F ρ) vs xs := by
  cases i with
  | l i =>
    obtain ⟨a, vs, e, hs, p⟩ := its_get k h i
    exact ⟨a, vs, e, .inl hs, p⟩
  | t xs =>
    obtain ⟨a, vs, e, hs, p⟩ := vw_t h
    exact ⟨a, vs, e, .inr (ex_t k.ex hs), pr_dmap p⟩

/-! ### operations by values -/
theorem rv_pure {r : R2} {v' : V} (h : ∀ (F : Hp) (ρ : List Addr) (H : Hp) (v u : V) (Q : VK), Ok K F ρ H μ → VW K F ρ v x → VW K F ρ u y → (∀ v', VW K F ρ v' z → Q v' H) → r v u H Q) : RV K r x y μ z μ :=
  fun F ρ H v u Q k a b q => h F ρ H v u Q k a b fun v' e => q v' F ρ H Go.refl k e
theorem rv_I0 {g : Int → Int → Int} {i j : Int} : RV K (rI0 fun i j => .int (g i j)) (.i i) (.i j) μ (.i (g i j)) μ := fun F ρ H v u Q k a b q =>
  ⟨i, j, vw_int a, vw_int b, q _ F ρ H Go.refl k (Dp.int _)⟩
theorem rv_I {C : Int → Int → Prop} {g : Int → Int → Int} {i j : Int} (h : C i j) : RV K (rI C fun i j => .int (g i j)) (.i i) (.i j) μ (.i (g i j)) μ := fun F ρ H v u Q k a b q =>
  ⟨i, j, vw_int a, vw_int b, h, q _ F ρ H Go.refl k (Dp.int _)⟩
theorem rv_B0 {g : Int → Int → Bool} {i j : Int} : RV K (rI0 fun i j => .bl (g i j)) (.i i) (.i j) μ (.b (g i j)) μ := fun F ρ H v u Q k a b q =>
  ⟨i, j, vw_int a, vw_int b, q _ F ρ H Go.refl k (Dp.bl _)⟩
theorem ru_I {g : Int → Int} {i : Int} : RU K (rU fun i => .int (g i)) (.i i) μ (.i (g i)) μ := fun F ρ H v Q k a q => ⟨i, vw_int a, q _ F ρ H Go.refl k (Dp.int _)⟩
/-- == of data of any kind -/
def rEqU (K : PySem.W.Frag) : R2 := rEqD K
theorem rv_eqD {a b : PyData} (h1 : SeqAt.shaped a = true) (h2 : SeqAt.shaped b = true) : RV K (rEqD K) (.d a) (.d b) μ (.b (PyData.eqv a b)) μ := fun F ρ H v u Q k e1 e2 q =>
  ⟨a, b, dp_ex k.ex e1, dp_ex k.ex e2, h1, h2, q _ F ρ H Go.refl k (Dp.bl _)⟩
theorem rv_neD {a b : PyData} (h1 : SeqAt.shaped a = true) (h2 : SeqAt.shaped b = true) : RV K (rNeD K) (.d a) (.d b) μ (.b (!PyData.eqv a b)) μ := fun F ρ H v u Q k e1 e2 q =>
  ⟨a, b, dp_ex k.ex e1, dp_ex k.ex e2, h1, h2, q _ F ρ H Go.refl k (Dp.bl _)⟩
/-- a list of data that is a cell, as data -/
theorem dp_cell {F H : Hp} {ρ : List Addr} {v : V} {xs : List PyData} (k : Ok K F ρ H μ) (h : VW K F ρ v w) (i : Its μ w (xs.map .d)) : Dp K H v (.list xs) := by
  obtain ⟨a, vs, rfl, hs, p⟩ := its_get k h i
  exact .lst hs (dpAll_ex k.ex (pr_dpAll (pr_dun p)))
/-- what == sees: data, or a cell of data -/
inductive Sees (μ : Mu) : W → PyData → Prop
  | d (x : PyData) : Sees μ (.d x) x
  | p {n : Nat} {xs : List PyData} : μ[n]? = some (.lst (xs.map .d)) → Sees μ (.p n) (.list xs)
theorem sees_get {F H : Hp} {ρ : List Addr} {v : V} {a : PyData} (k : Ok K F ρ H μ) (h : VW K F ρ v w) (i : Sees μ w a) : Dp K H v a := by
  cases i with
  | d x => exact dp_ex k.ex h
  | p e => exact dp_cell k h (.p e)
theorem rv_eqS {a b : PyData} (s1 : Sees μ x a) (s2 : Sees μ y b) (h1 : SeqAt.shaped a = true) (h2 : SeqAt.shaped b = true) : RV K (rEqD K) x y μ (.b (PyData.eqv a b)) μ := fun F ρ H v u Q k e1 e2 q =>
  ⟨a, b, sees_get k e1 s1, sees_get k e2 s2, h1, h2, q _ F ρ H Go.refl k (Dp.bl _)⟩
theorem rv_neS {a b : PyData} (s1 : Sees μ x a) (s2 : Sees μ y b) (h1 : SeqAt.shaped a = true) (h2 : SeqAt.shaped b = true) : RV K (rNeD K) x y μ (.b (!PyData.eqv a b)) μ := fun F ρ H v u Q k e1 e2 q =>
  ⟨a, b, sees_get k e1 s1, sees_get k e2 s2, h1, h2, q _ F ρ H Go.refl k (Dp.bl _)⟩
/-- == of scalars -/
def rEqSc : R2 := rEq
def datV : PyData → Option V
  | .none => some .non
  | .bool b => some (.bl b)
  | .int i => some (.int i)
  | .str s => some (.str s)
  | _ => none
theorem dp_datV {F : Hp} {v u : V} {a : PyData} (h : Dp K F v a) (e : datV a = some u) : v = u := by
  cases h <;> simp [datV] at e <;> exact e
theorem rv_eq {a b : PyData} {v u : V} (h1 : datV a = some v) (h2 : datV b = some u) (h : scal v u = true) : RV K rEq (.d a) (.d b) μ (.b (decide (v = u))) μ := fun F ρ H v' u' Q k e1 e2 q => by
  have z1 := dp_datV e1 h1
  have z2 := dp_datV e2 h2
  subst z1
  subst z2
  exact ⟨h, q _ F ρ H Go.refl k (Dp.bl _)⟩
theorem rv_ne {a b : PyData} {v u : V} (h1 : datV a = some v) (h2 : datV b = some u) (h : scal v u = true) : RV K rNe (.d a) (.d b) μ (.b (!decide (v = u))) μ := fun F ρ H v' u' Q k e1 e2 q => by
  have z1 := dp_datV e1 h1
  have z2 := dp_datV e2 h2
  subst z1
  subst z2
  exact ⟨h, q _ F ρ H Go.refl k (Dp.bl _)⟩
/-! ### places -/
def atW (xs : List W) (i : Int) : Option W := (ixN xs.length i).bind fun j => xs[j]?
theorem at_pr {F : Hp} {ρ : List Addr} {vs : List V} {xs : List W} {i : Int} (p : Paired (VW K F ρ) vs xs) (h : atW xs i = some z) : ∃ v, atI vs i = some v ∧ VW K F ρ v z := by
  unfold atW at h
  unfold atI
  rw [pr_len p]
  cases e : ixN xs.length i with
  | none =>
    rw [e] at h
    cases h
  | some j =>
    rw [e] at h
    obtain ⟨v, e1, e2⟩ := pr_get p (show xs[j]? = some z from h)
    exact ⟨v, e1, e2⟩
theorem rv_ix {xs : List W} {i : Int} (h : Seq μ x xs) (e : atW xs i = some z) : RV K (rIx K) x (.i i) μ z μ := fun F ρ H v u Q k a b q => by
  obtain ⟨p, vs, rfl, hs, pr⟩ := seq_get k a h
  obtain ⟨v', e1, e2⟩ := at_pr pr e
  have r := q v' F ρ H Go.refl k e2
  rcases hs with hs | hs
  · exact .inl ⟨p, vs, i, v', rfl, vw_int b, hs, e1, r⟩
  · exact .inr (.inl ⟨p, vs, i, v', rfl, vw_int b, hs, e1, r⟩)
theorem rv_ixS {s : Str} {i : Int} {c : Nat} (hl : s.length ≤ sizeLine) (e : atI s.cps.toList i = some c) : RV K (rIx K) (.s s) (.i i) μ (.s ⟨#[c]⟩) μ := fun F ρ H v u Q k a b q =>
  .inr (.inr ⟨s, i, c, vw_s a, vw_int b, hl, e, q _ F ρ H Go.refl k (Dp.str _)⟩)

/-! ### tests -/
theorem et_test {b : Bool} (h : Ev K te δ μ (.b b) μ') : EvT K (tTest te) δ μ b μ' := fun F ρ H σ Q k s q =>
  h F ρ H σ _ k s fun v F1 ρ1 H1 g1 k1 e1 => ⟨b, vw_b e1, q F1 ρ1 H1 g1 k1⟩
theorem et_B {b : Bool} (h : Ev K te δ μ (.b b) μ') : EvT K (tB te) δ μ b μ' := fun F ρ H σ Q k s q =>
  h F ρ H σ _ k s fun v F1 ρ1 H1 g1 k1 e1 => ⟨b, vw_b e1, q F1 ρ1 H1 g1 k1⟩
/-- truth of a value -/
def tTr (K : PySem.W.Frag) (ta : TE) : TT := fun σ H Q => ta σ H fun x H' => ∃ k, TruV K x H' k ∧ Q k H'
theorem pt_tr {X : Cx} {a : Expr} {ta : TE} (ha : PE X a ta) (he : ∀ whole, isTrue a X.env whole = (do let v ← whole; standAt a.pos; holding [v] (truthy v)) := by intro _; rfl) : PT X a (tTr X.K ta) := pt_truth ha he
inductive Tru (μ : Mu) : W → Bool → Prop
  | b (b : Bool) : Tru μ (.b b) b
  | i (i : Int) : Tru μ (.i i) (i != 0)
  | n : Tru μ (.d .none) false
  | s {s : Str} : s.length ≤ sizeLine → Tru μ (.s s) ((s.length : Int) != 0)
  | q {w : W} {xs : List W} : Seq μ w xs → Tru μ w (!xs.isEmpty)
theorem et_tr {b : Bool} (h : Ev K te δ μ w μ') (t : Tru μ' w b) : EvT K (tTr K te) δ μ b μ' := fun F ρ H σ Q k s q =>
  h F ρ H σ _ k s fun v F1 ρ1 H1 g1 k1 e1 => by
    refine ⟨b, ?_, q F1 ρ1 H1 g1 k1⟩
    cases t with
    | b b =>
      rw [vw_b e1]
      exact rfl
    | i i =>
      rw [vw_int e1]
      exact rfl
    | n =>
      rw [vw_n e1]
      exact rfl
    | s hl =>
      rw [vw_s e1]
      exact ⟨hl, rfl⟩
    | q i =>
      rename_i ys
      obtain ⟨p, vs, rfl, hs, pr⟩ := seq_get k1 e1 i
      have e : vs.isEmpty = ys.isEmpty := by
        cases pr with
        | nil => rfl
        | cons _ _ => rfl
      rcases hs with hs | hs
      · exact .inl ⟨vs, hs, by rw [e]⟩
      · exact .inr (.inl ⟨vs, hs, by rw [e]⟩)
theorem et_and {a b : Bool} (h1 : EvT K tt δ μ a μ1) (h2 : a = true → EvT K tu δ μ1 b μ2) : EvT K (tAnd tt tu) δ μ (a && b) (if a = true then μ2 else μ1) := fun F ρ H σ Q k s q =>
  h1 F ρ H σ _ k s fun F1 ρ1 H1 g1 k1 => by
    cases a with
    | true =>
      show tu σ H1 Q
      exact h2 rfl F1 ρ1 H1 σ Q k1 (sl_go g1 s) fun F2 ρ2 H2 g2 k2 => q F2 ρ2 H2 (g1.trans g2) k2
    | false =>
      show Q false H1
      exact q F1 ρ1 H1 g1 k1
theorem et_or {a b : Bool} (h1 : EvT K tt δ μ a μ1) (h2 : a = false → EvT K tu δ μ1 b μ2) : EvT K (tOr tt tu) δ μ (a || b) (if a = true then μ1 else μ2) := fun F ρ H σ Q k s q =>
  h1 F ρ H σ _ k s fun F1 ρ1 H1 g1 k1 => by
    cases a with
    | true =>
      show Q true H1
      exact q F1 ρ1 H1 g1 k1
    | false =>
      show tu σ H1 Q
      exact h2 rfl F1 ρ1 H1 σ Q k1 (sl_go g1 s) fun F2 ρ2 H2 g2 k2 => q F2 ρ2 H2 (g1.trans g2) k2
/-- nothing is changed by either -/
theorem et_and0 {a b : Bool} (h1 : EvT K tt δ μ a μ) (h2 : a = true → EvT K tu δ μ b μ) : EvT K (tAnd tt tu) δ μ (a && b) μ := by
  have h := et_and h1 h2
  cases a <;> exact h
theorem et_or0 {a b : Bool} (h1 : EvT K tt δ μ a μ) (h2 : a = false → EvT K tu δ μ b μ) : EvT K (tOr tt tu) δ μ (a || b) μ := by
  have h := et_or h1 h2
  cases a <;> exact h
theorem et_not {a : Bool} (h1 : EvT K tt δ μ a μ1) : EvT K (tNot tt) δ μ (!a) μ1 := fun F ρ H σ Q k s q => h1 F ρ H σ _ k s q
theorem et_is {a b : Bool} (h : EvT K tt δ μ a μ') (e : a = b) : EvT K tt δ μ b μ' := e ▸ h
/-- bools as values -/
theorem ev_andV {a b : Bool} (h1 : Ev K ta δ μ (.b a) μ) (h2 : a = true → Ev K tb δ μ (.b b) μ) : Ev K (tAndV ta tb) δ μ (.b (a && b)) μ := fun F ρ H σ Q k s q =>
  h1 F ρ H σ _ k s fun v F1 ρ1 H1 g1 k1 e1 => by
    refine ⟨a, vw_b e1, ?_⟩
    cases a with
    | true =>
      show tb σ H1 Q
      exact h2 rfl F1 ρ1 H1 σ Q k1 (sl_go g1 s) fun v F2 ρ2 H2 g2 k2 e2 => q v F2 ρ2 H2 (g1.trans g2) k2 e2
    | false =>
      show Q (.bl false) H1
      exact q _ F1 ρ1 H1 g1 k1 (Dp.bl _)
theorem ev_orV {a b : Bool} (h1 : Ev K ta δ μ (.b a) μ) (h2 : a = false → Ev K tb δ μ (.b b) μ) : Ev K (tOrV ta tb) δ μ (.b (a || b)) μ := fun F ρ H σ Q k s q =>
  h1 F ρ H σ _ k s fun v F1 ρ1 H1 g1 k1 e1 => by
    refine ⟨a, vw_b e1, ?_⟩
    cases a with
    | true =>
      show Q (.bl true) H1
      exact q _ F1 ρ1 H1 g1 k1 (Dp.bl _)
    | false =>
      show tb σ H1 Q
      exact h2 rfl F1 ρ1 H1 σ Q k1 (sl_go g1 s) fun v F2 ρ2 H2 g2 k2 e2 => q v F2 ρ2 H2 (g1.trans g2) k2 e2
theorem ev_notV {a : Bool} (h1 : Ev K ta δ μ (.b a) μ1) : Ev K (tNotV ta) δ μ (.b (!a)) μ1 := fun F ρ H σ Q k s q =>
  h1 F ρ H σ _ k s fun v F1 ρ1 H1 g1 k1 e1 => ⟨a, vw_b e1, q _ F1 ρ1 H1 g1 k1 (Dp.bl _)⟩
theorem ev_if {a : Bool} (h1 : EvT K tt δ μ a μ1) (h2 : a = true → Ev K ta δ μ1 w μ2) (h3 : a = false → Ev K tb δ μ1 w μ2) : Ev K (tIf tt ta tb) δ μ w μ2 := fun F ρ H σ Q k s q =>
  h1 F ρ H σ _ k s fun F1 ρ1 H1 g1 k1 => by
    cases a with
    | true =>
      show ta σ H1 Q
      exact h2 rfl F1 ρ1 H1 σ Q k1 (sl_go g1 s) fun v F2 ρ2 H2 g2 k2 e2 => q v F2 ρ2 H2 (g1.trans g2) k2 e2
    | false =>
      show tb σ H1 Q
      exact h3 rfl F1 ρ1 H1 σ Q k1 (sl_go g1 s) fun v F2 ρ2 H2 g2 k2 e2 => q v F2 ρ2 H2 (g1.trans g2) k2 e2
/-- a < b < c -/
theorem ev_chain {r' : R2} {a b : Bool} (ha : Ev K ta δ μ x μ) (hb : Ev K tb δ μ y μ) (hr : RV K r x y μ (.b a) μ) (hc : a = true → Ev K tc δ μ z μ) (hr' : a = true → RV K r' y z μ (.b b) μ) : Ev K (tChain r r' ta tb tc) δ μ (.b (a && b)) μ := fun F ρ H σ Q k s q =>
  ha F ρ H σ _ k s fun v F1 ρ1 H1 g1 k1 e1 => hb F1 ρ1 H1 σ _ k1 (sl_go g1 s) fun u F2 ρ2 H2 g2 k2 e2 =>
    hr F2 ρ2 H2 v u _ k2 (vw_go g2 e1) e2 fun v' F3 ρ3 H3 g3 k3 e3 => by
      refine ⟨a, vw_b e3, ?_⟩
      cases a with
      | true =>
        show tc σ H3 _
        exact hc rfl F3 ρ3 H3 σ _ k3 (sl_go g3 (sl_go g2 (sl_go g1 s))) fun w F4 ρ4 H4 g4 k4 e4 => hr' rfl F4 ρ4 H4 u w Q k4 (vw_go g4 (vw_go g3 e2)) e4 fun v5 F5 ρ5 H5 g5 k5 e5 =>
          q v5 F5 ρ5 H5 ((((g1.trans g2).trans g3).trans g4).trans g5) k5 e5
      | false =>
        show Q (.bl false) H3
        exact q _ F3 ρ3 H3 ((g1.trans g2).trans g3) k3 (Dp.bl _)

/-! ### displays -/
theorem ok_tup {F H : Hp} {ρ : List Addr} {vs : List V} {xs : List PyData} (k : Ok K F ρ H μ) (pr : Paired (Dp K F) vs xs) {p : Addr} (h : H p = none) {Q : VK} (q : ∀ v F' ρ' H', Go F ρ H F' ρ' H' → Ok K F' ρ' H' μ → VW K F' ρ' v (.d (.tuple xs)) → Q v H') : Q (.ref p) (upd H p (.tup vs)) := by
  obtain ⟨k2, g2⟩ := k.freeze (o := .tup vs) h
  exact q _ _ _ _ g2 k2 (wv_t (SqT.of upd_same) (pr_mono (fun _ _ => dp_ex g2.ex) pr))
theorem ok_lst {F H : Hp} {ρ : List Addr} {vs : List V} {xs : List PyData} (k : Ok K F ρ H μ) (pr : Paired (Dp K F) vs xs) {p : Addr} (h : H p = none) {Q : VK} (q : ∀ v F' ρ' H', Go F ρ H F' ρ' H' → Ok K F' ρ' H' μ → VW K F' ρ' v (.d (.list xs)) → Q v H') : Q (.ref p) (upd H p (.lst vs)) := by
  obtain ⟨k2, g2⟩ := k.freeze (o := .lst vs) h
  exact q _ _ _ _ g2 k2 (wv_l (SqL.of upd_same) (pr_mono (fun _ _ => dp_ex g2.ex) pr))
theorem ok_cel {F H : Hp} {ρ : List Addr} {vs : List V} {ws : List W} (k : Ok K F ρ H μ) (pr : Paired (VW K F ρ) vs ws) {p : Addr} (h : H p = none) {Q : VK} (q : ∀ v F' ρ' H', Go F ρ H F' ρ' H' → Ok K F' ρ' H' (μ ++ [.lst ws]) → VW K F' ρ' v (.p μ.length) → Q v H') : Q (.ref p) (upd H p (.lst vs)) := by
  have g : Go F ρ H F (ρ ++ [p]) (upd H p (.lst vs)) := (Ok.push (c := .gone) (o := .lst vs) k h trivial).2.1
  obtain ⟨k2, g2, e⟩ := k.push (o := .lst vs) (c := .lst ws) h ⟨k.ex.un h, vs, upd_same, vws_go g pr⟩
  exact q _ _ _ _ g2 k2 ⟨p, e, rfl⟩
theorem ev_tup {xs : List PyData} (ha : EvA K tl δ μ ws μ1) (e : ws = xs.map .d) (hz : xs.length ≤ sizeLine) : Ev K (tTup tl) δ μ (.d (.tuple xs)) μ1 := fun F ρ H σ Q k s q =>
  ha F ρ H σ _ k s fun vs F1 ρ1 H1 g1 k1 e1 => by
    subst e
    have pr := pr_dun e1
    exact ⟨by rw [pr_len pr]; exact hz, fun p hp => ok_tup k1 pr hp fun v F2 ρ2 H2 g2 k2 e2 => q v F2 ρ2 H2 (g1.trans g2) k2 e2⟩
theorem ev_lstD {xs : List PyData} (ha : EvA K tl δ μ ws μ1) (e : ws = xs.map .d) (hz : xs.length ≤ sizeLine) : Ev K (tLst tl) δ μ (.d (.list xs)) μ1 := fun F ρ H σ Q k s q =>
  ha F ρ H σ _ k s fun vs F1 ρ1 H1 g1 k1 e1 => by
    subst e
    have pr := pr_dun e1
    exact ⟨by rw [pr_len pr]; exact hz, fun p hp => ok_lst k1 pr hp fun v F2 ρ2 H2 g2 k2 e2 => q v F2 ρ2 H2 (g1.trans g2) k2 e2⟩
theorem ev_lstP (ha : EvA K tl δ μ ws μ1) (hz : ws.length ≤ sizeLine) : Ev K (tLst tl) δ μ (.p μ1.length) (μ1 ++ [.lst ws]) := fun F ρ H σ Q k s q =>
  ha F ρ H σ _ k s fun vs F1 ρ1 H1 g1 k1 e1 => ⟨by rw [pr_len e1]; exact hz, fun p hp => ok_cel k1 e1 hp fun v F2 ρ2 H2 g2 k2 e2 => q v F2 ρ2 H2 (g1.trans g2) k2 e2⟩
end

/-! ### statements -/
inductive SO where
  | nx (δ : Dl) (μ : Mu)
  | ret (w : W) (μ : Mu)
  | brk (δ : Dl) (μ : Mu)
  | ct (δ : Dl) (μ : Mu)
  | exc (C : Value) (δ : Dl) (μ : Mu)
def Post (K : PySem.W.Frag) (X : WX) (F : Hp) (ρ : List Addr) (H : Hp) (D : Ends) (o : SO) : Prop := match o with
  | .nx δ μ => ∀ σ' F' ρ' H', Go F ρ H F' ρ' H' → Ok K F' ρ' H' μ → Sl K F' ρ' σ' δ → D.nx σ' H'
  | .brk δ μ => ∀ σ' F' ρ' H', Go F ρ H F' ρ' H' → Ok K F' ρ' H' μ → Sl K F' ρ' σ' δ → D.bk σ' H'
  | .ct δ μ => ∀ σ' F' ρ' H', Go F ρ H F' ρ' H' → Ok K F' ρ' H' μ → Sl K F' ρ' σ' δ → D.ct σ' H'
  | .ret w μ => ∀ v F' ρ' H', Go F ρ H F' ρ' H' → Ok K F' ρ' H' μ → VW K F' ρ' v w → D.rt v H'
  | .exc C δ μ => ∀ σ' F' ρ' H', Go F ρ H F' ρ' H' → Ok K F' ρ' H' μ → Sl K F' ρ' σ' δ → X C none σ' H'
/-- from the names δ and the store μ the statement comes to an end of which O is so -/
def St (K : PySem.W.Frag) (X : WX) (t : TS) (δ : Dl) (μ : Mu) (O : SO → Prop) : Prop :=
  ∀ (F : Hp) (ρ : List Addr) (H : Hp) (σ : L2.St) (D : Ends), Ok K F ρ H μ → Sl K F ρ σ δ → (∀ o, O o → Post K X F ρ H D o) → t D σ H
theorem Post.go {K : PySem.W.Frag} {X : WX} {F F1 H H1 : Hp} {ρ ρ1 : List Addr} {D : Ends} {o : SO} (g : Go F ρ H F1 ρ1 H1) (h : Post K X F ρ H D o) : Post K X F1 ρ1 H1 D o := by
  cases o with
  | nx δ μ => exact fun σ' F' ρ' H' g' => h σ' F' ρ' H' (g.trans g')
  | brk δ μ => exact fun σ' F' ρ' H' g' => h σ' F' ρ' H' (g.trans g')
  | ct δ μ => exact fun σ' F' ρ' H' g' => h σ' F' ρ' H' (g.trans g')
  | ret w μ => exact fun σ' F' ρ' H' g' => h σ' F' ρ' H' (g.trans g')
  | exc C δ μ => exact fun σ' F' ρ' H' g' => h σ' F' ρ' H' (g.trans g')
/-- an expression that raises -/
def EvX (K : PySem.W.Frag) (X : WX) (te : TE) (δ : Dl) (μ : Mu) (C : Value) (μ' : Mu) : Prop :=
  ∀ (F : Hp) (ρ : List Addr) (H : Hp) (σ : L2.St) (Q : VK), Ok K F ρ H μ → Sl K F ρ σ δ →
    (∀ F' ρ' H', Go F ρ H F' ρ' H' → Ok K F' ρ' H' μ' → X C none σ H') → te σ H Q
/-- behind a first part: the rest -/
def Sq (K : PySem.W.Frag) (X : WX) (u : TS) (O : SO → Prop) : SO → Prop
  | .nx δ μ => St K X u δ μ O
  | o => O o

section
variable {K : PySem.W.Frag} {X : WX} {δ δ1 δ2 : Dl} {μ μ1 μ2 : Mu} {t u : TS} {te ta tb : TE} {tt : TT} {w x y z : W} {O O' : SO → Prop} {C : Value}
theorem st_mono (h : St K X t δ μ O) (e : ∀ o, O o → O' o) : St K X t δ μ O' := fun F ρ H σ D k s q => h F ρ H σ D k s fun o ho => q o (e o ho)
theorem st_seq (h : St K X t δ μ (Sq K X u O)) : St K X (tSeq t u) δ μ O := fun F ρ H σ D k s q =>
  h F ρ H σ { D with nx := u D } k s fun o ho => by
    cases o with
    | nx δ1 μ1 => exact fun σ1 F1 ρ1 H1 g1 k1 s1 => ho F1 ρ1 H1 σ1 D k1 s1 fun o ho => (q o ho).go g1
    | brk δ1 μ1 => exact q _ ho
    | ct δ1 μ1 => exact q _ ho
    | ret w μ1 => exact q _ ho
    | exc C δ1 μ1 => exact q _ ho
theorem st_next (h : O (.nx δ μ)) : St K X tNext δ μ O := fun F ρ H σ D k s q => q _ h σ F ρ H Go.refl k s
theorem st_break (h : O (.brk δ μ)) : St K X tBreak δ μ O := fun F ρ H σ D k s q => q _ h σ F ρ H Go.refl k s
theorem st_cont (h : O (.ct δ μ)) : St K X tCont δ μ O := fun F ρ H σ D k s q => q _ h σ F ρ H Go.refl k s
theorem st_ret (e : Ev K te δ μ w μ1) (h : O (.ret w μ1)) : St K X (tRet te) δ μ O := fun F ρ H σ D k s q => e F ρ H σ _ k s fun v F1 ρ1 H1 g1 k1 e1 => q _ h v F1 ρ1 H1 g1 k1 e1
theorem st_retN (h : O (.ret (.d .none) μ)) : St K X tRetN δ μ O := fun F ρ H σ D k s q => q _ h .non F ρ H Go.refl k Dp.non
theorem st_retX (e : EvX K X te δ μ C μ1) (h : O (.exc C δ μ1)) : St K X (tRet te) δ μ O := fun F ρ H σ D k s q => e F ρ H σ _ k s fun F1 ρ1 H1 g1 k1 => q _ h σ F1 ρ1 H1 g1 k1 (sl_go g1 s)
theorem st_drop (e : Ev K te δ μ w μ1) (h : O (.nx δ μ1)) : St K X (tDrop te) δ μ O := fun F ρ H σ D k s q => e F ρ H σ _ k s fun v F1 ρ1 H1 g1 k1 e1 => q _ h σ F1 ρ1 H1 g1 k1 (sl_go g1 s)
theorem st_dropX (e : EvX K X te δ μ C μ1) (h : O (.exc C δ μ1)) : St K X (tDrop te) δ μ O := fun F ρ H σ D k s q => e F ρ H σ _ k s fun F1 ρ1 H1 g1 k1 => q _ h σ F1 ρ1 H1 g1 k1 (sl_go g1 s)
theorem st_if {b : Bool} (e : EvT K tt δ μ b μ1) (h1 : b = true → St K X t δ μ1 O) (h2 : b = false → St K X u δ μ1 O) : St K X (tIfS tt t u) δ μ O := fun F ρ H σ D k s q =>
  e F ρ H σ _ k s fun F1 ρ1 H1 g1 k1 => by
    cases b with
    | true =>
      show t D σ H1
      exact h1 rfl F1 ρ1 H1 σ D k1 (sl_go g1 s) fun o ho => (q o ho).go g1
    | false =>
      show u D σ H1
      exact h2 rfl F1 ρ1 H1 σ D k1 (sl_go g1 s) fun o ho => (q o ho).go g1
theorem st_ifT (e : EvT K tt δ μ true μ1) (h1 : St K X t δ μ1 O) : St K X (tIfS tt t u) δ μ O := st_if e (fun _ => h1) fun z => nomatch z
theorem st_ifF (e : EvT K tt δ μ false μ1) (h1 : St K X u δ μ1 O) : St K X (tIfS tt t u) δ μ O := st_if e (fun z => nomatch z) fun _ => h1
/-- less is known of the names -/
def Le (δ δ' : Dl) : Prop := Paired (fun (a b : Option W) => ∀ x, b = some x → a = some x) δ δ'
theorem sl_le {F : Hp} {ρ : List Addr} {σ : L2.St} {δ' : Dl} (l : Le δ δ') (s : Sl K F ρ σ δ) : Sl K F ρ σ δ' := by
  induction s generalizing δ' with
  | nil =>
    cases l
    exact .nil
  | cons r t ih =>
    cases l with
    | cons a b => exact .cons (fun x e => r x (a x e)) (ih b)
theorem st_le {δ' : Dl} (h : St K X t δ' μ O) (l : Le δ δ') : St K X t δ μ O := fun F ρ H σ D k s q => h F ρ H σ D k (sl_le l s) q
theorem ev_le {δ' : Dl} (h : Ev K te δ' μ w μ1) (l : Le δ δ') : Ev K te δ μ w μ1 := fun F ρ H σ Q k s q => h F ρ H σ Q k (sl_le l s) q
theorem le_refl : ∀ δ : Dl, Le δ δ
  | [] => .nil
  | _ :: δ => .cons (fun _ e => e) (le_refl δ)
theorem le_cons {a : Option W} {δ δ' : Dl} (h : Le δ δ') : Le (a :: δ) (a :: δ') := .cons (fun _ e => e) h
theorem le_non {a : Option W} {δ δ' : Dl} (h : Le δ δ') : Le (a :: δ) (none :: δ') := .cons (fun _ e => nomatch e) h

/-! ### targets -/
def EvG (K : PySem.W.Frag) (g : TG) (w : W) (δ : Dl) (μ : Mu) (δ' : Dl) (μ' : Mu) : Prop :=
  ∀ (F : Hp) (ρ : List Addr) (H : Hp) (σ : L2.St) (v : V) (Q : L2.St → Hp → Prop), Ok K F ρ H μ → Sl K F ρ σ δ → VW K F ρ v w →
    (∀ σ' F' ρ' H', Go F ρ H F' ρ' H' → Ok K F' ρ' H' μ' → Sl K F' ρ' σ' δ' → Q σ' H') → g v σ H Q
def EvGs (K : PySem.W.Frag) (g : TGs) (ws : List W) (δ : Dl) (μ : Mu) (δ' : Dl) (μ' : Mu) : Prop :=
  ∀ (F : Hp) (ρ : List Addr) (H : Hp) (σ : L2.St) (vs : List V) (Q : L2.St → Hp → Prop), Ok K F ρ H μ → Sl K F ρ σ δ → Paired (VW K F ρ) vs ws →
    (∀ σ' F' ρ' H', Go F ρ H F' ρ' H' → Ok K F' ρ' H' μ' → Sl K F' ρ' σ' δ' → Q σ' H') → g vs σ H Q
theorem eg_name {i : Nat} : EvG K (gName i) w δ μ (δ.set i (some w)) μ := fun F ρ H σ v Q k s e q => q _ F ρ H Go.refl k (sl_set s e)
theorem eg_skip {i : Nat} : EvG K (gName i) w δ μ (δ.set i none) μ := fun F ρ H σ v Q k s e q => q _ F ρ H Go.refl k (sl_un s)
theorem egs_nil : EvGs K gNil [] δ μ δ μ := fun F ρ H σ vs Q k s e q => ⟨pr_nilR e, q σ F ρ H Go.refl k s⟩
theorem egs_cons {g : TG} {gs : TGs} {ws : List W} (h1 : EvG K g w δ μ δ1 μ1) (h2 : EvGs K gs ws δ1 μ1 δ2 μ2) : EvGs K (gCons g gs) (w :: ws) δ μ δ2 μ2 := fun F ρ H σ vs Q k s e q => by
  cases e with
  | cons a b => exact ⟨_, _, rfl, h1 F ρ H σ _ _ k s a fun σ1 F1 ρ1 H1 g1 k1 s1 => h2 F1 ρ1 H1 σ1 _ Q k1 s1 (vws_go g1 b) fun σ2 F2 ρ2 H2 g2 k2 s2 => q σ2 F2 ρ2 H2 (g1.trans g2) k2 s2⟩
theorem eg_tup {n : Nat} {gs : TGs} {xs : List PyData} (e : xs.length = n) (h : EvGs K gs (xs.map .d) δ μ δ1 μ1) : EvG K (gTup K n gs) (.d (.tuple xs)) δ μ δ1 μ1 := fun F ρ H σ v Q k s hv q => by
  obtain ⟨a, vs, rfl, hs, p⟩ := vw_t hv
  exact ⟨a, vs, rfl, ex_t k.ex hs, by rw [pr_len p]; exact e, h F ρ H σ vs Q k s (pr_dmap p) q⟩
theorem st_asg {g : TG} (e : Ev K te δ μ w μ1) (hg : EvG K g w δ μ1 δ1 μ2) (h : O (.nx δ1 μ2)) : St K X (tAsg te g) δ μ O := fun F ρ H σ D k s q =>
  e F ρ H σ _ k s fun v F1 ρ1 H1 g1 k1 e1 => hg F1 ρ1 H1 σ v _ k1 (sl_go g1 s) e1 fun σ2 F2 ρ2 H2 g2 k2 s2 => q _ h σ2 F2 ρ2 H2 (g1.trans g2) k2 s2
theorem st_asgX {g : TG} (e : EvX K X te δ μ C μ1) (h : O (.exc C δ μ1)) : St K X (tAsg te g) δ μ O := fun F ρ H σ D k s q => e F ρ H σ _ k s fun F1 ρ1 H1 g1 k1 => q _ h σ F1 ρ1 H1 g1 k1 (sl_go g1 s)
theorem st_set {i : Nat} (e : Ev K te δ μ w μ1) (h : O (.nx (δ.set i (some w)) μ1)) : St K X (tAsg te (gName i)) δ μ O := st_asg e eg_name h
/-- xs[i] = e, xs a cell -/
theorem eg_subL {n j : Nat} {i : Int} {xs : List W} (ha : Ev K ta δ μ (.p n) μ1) (hb : Ev K tb δ μ1 (.i i) μ2) (e : μ2[n]? = some (.lst xs)) (hi : ixN xs.length i = some j) :
    EvG K (gSub ta tb rSetL) w δ μ δ (μ2.set n (.lst (xs.set j w))) := fun F ρ H σ v Q k s hv q =>
  ha F ρ H σ _ k s fun v1 F1 ρ1 H1 g1 k1 e1 => hb F1 ρ1 H1 σ _ k1 (sl_go g1 s) fun v2 F2 ρ2 H2 g2 k2 e2 => by
    obtain ⟨a, ea, rfl⟩ := vw_go g2 e1
    obtain ⟨b, eb, hF, vs, hb, pr⟩ := k2.at e
    rw [ea] at eb
    cases eb
    have hv2 := vw_go g2 (vw_go g1 hv)
    obtain ⟨k3, g3⟩ := k2.put (o := .lst (vs.set j v)) (c := .lst (xs.set j w)) ea hF ⟨hF, _, upd_same, pr_set hv2 j pr⟩
    exact ⟨a, vs, i, j, rfl, vw_int e2, hb, by rw [pr_len pr]; exact hi, q σ _ _ _ ((g1.trans g2).trans g3) k3 (sl_go g3 (sl_go g2 (sl_go g1 s)))⟩
end

/-! ### walks -/
/-- J yields ws, one by one, whatever else is done, while the store keeps Kp -/
structure Runs (K : PySem.W.Frag) (J : It) (F : Hp) (ρ : List Addr) (H : Hp) (ws : List W) (Kp : Mu → Prop) : Prop where
  go : ∀ (i : Nat) (w : W) (F2 : Hp) (ρ2 : List Addr) (H2 : Hp) (μ2 : Mu), ws[i]? = some w → Go F ρ H F2 ρ2 H2 → Ok K F2 ρ2 H2 μ2 → Kp μ2 →
    J.go i H2 ∧ ∀ x H3, J.yld i H2 x H3 → ∃ F3 ρ3, Go F2 ρ2 H2 F3 ρ3 H3 ∧ Ok K F3 ρ3 H3 μ2 ∧ VW K F3 ρ3 x w
  stop : ∀ (F2 : Hp) (ρ2 : List Addr) (H2 : Hp) (μ2 : Mu), Go F ρ H F2 ρ2 H2 → Ok K F2 ρ2 H2 μ2 → Kp μ2 → J.stop ws.length H2
def EvI (K : PySem.W.Frag) (wi : TI) (δ : Dl) (μ : Mu) (ws : List W) (Kp : Mu → Prop) (μ' : Mu) : Prop :=
  ∀ (F : Hp) (ρ : List Addr) (H : Hp) (σ : L2.St) (R : It → Hp → Prop), Ok K F ρ H μ → Sl K F ρ σ δ →
    (∀ J F' ρ' H', Go F ρ H F' ρ' H' → Ok K F' ρ' H' μ' → Runs K J F' ρ' H' ws Kp → R J H') → wi σ H R
/-- what the store must keep for the items of a list or tuple to stay -/
def KpOf : W → List W → Mu → Prop
  | .p n, xs, μ => μ[n]? = some (.lst xs)
  | _, _, _ => True
theorem its_kp {μ μ2 : Mu} {w : W} {xs : List W} (h : Its μ w xs) (k : KpOf w xs μ2) : Its μ2 w xs := by
  cases h with
  | d ys => exact .d ys
  | p e => exact .p k
section
variable {K : PySem.W.Frag} {X : WX} {δ δ1 δ2 : Dl} {μ μ1 μ2 : Mu} {te : TE} {ta : TA} {w : W} {ws : List W} {O : SO → Prop} {wi : TI} {g : TG} {tb : TS} {Kp : Mu → Prop}
theorem ei_list (e : Ev K te δ μ w μ1) (h : Its μ1 w ws) : EvI K (iList K te) δ μ ws (KpOf w ws) μ1 := fun F ρ H σ R k s q =>
  e F ρ H σ _ k s fun v F1 ρ1 H1 g1 k1 e1 => by
    obtain ⟨a, vs, rfl, hs, pr⟩ := its_get k1 e1 h
    refine ⟨a, rfl, ⟨vs, hs⟩, q (Itl K a) F1 ρ1 H1 g1 k1 ⟨fun i wi F2 ρ2 H2 μ2 hi g2 k2 kp => ?_, fun F2 ρ2 H2 μ2 g2 k2 kp => ?_⟩⟩
    · obtain ⟨b, us, eb, hs2, pr2⟩ := its_get k2 (vw_go g2 e1) (its_kp h kp)
      cases eb
      obtain ⟨u, hu, ru⟩ := pr_get pr2 hi
      exact ⟨⟨us, u, hs2, hu⟩, fun x H3 y => ⟨F2, ρ2, by rw [y.1]; exact Go.refl, by rw [y.1]; exact k2, by
        have z := y.2 us hs2
        rw [hu] at z
        cases z
        exact ru⟩⟩
    · obtain ⟨b, us, eb, hs2, pr2⟩ := its_get k2 (vw_go g2 e1) (its_kp h kp)
      cases eb
      exact ⟨us, hs2, by rw [pr_len pr2]; exact Nat.le_refl _⟩
theorem ei_tup {xs : List PyData} (e : Ev K te δ μ (.d (.tuple xs)) μ1) : EvI K (iTup K te) δ μ (xs.map .d) (fun _ => True) μ1 := fun F ρ H σ R k s q =>
  e F ρ H σ _ k s fun v F1 ρ1 H1 g1 k1 e1 => by
    obtain ⟨a, vs, rfl, hs, pr⟩ := vw_t e1
    refine ⟨a, rfl, ⟨vs, ex_t k1.ex hs⟩, q (Itt K a) F1 ρ1 H1 g1 k1 ⟨fun i wi F2 ρ2 H2 μ2 hi g2 k2 kp => ?_, fun F2 ρ2 H2 μ2 g2 k2 kp => ?_⟩⟩
    · obtain ⟨u, hu, ru⟩ := pr_get (pr_dmap (ρ := ρ1) pr) hi
      have hs2 := ex_t k2.ex (ex_t g2.ex hs)
      exact ⟨⟨vs, u, hs2, hu⟩, fun x H3 y => ⟨F2, ρ2, by rw [y.1]; exact Go.refl, by rw [y.1]; exact k2, by
        have z := y.2 vs hs2
        rw [hu] at z
        cases z
        exact vw_go g2 ru⟩⟩
    · exact ⟨vs, ex_t k2.ex (ex_t g2.ex hs), by rw [pr_len pr, List.length_map]; exact Nat.le_refl _⟩
def rangeW (lo : Int) (n : Nat) : List W := (List.range n).map fun i => .i (lo + (i : Nat))
theorem rangeW_len {lo : Int} {n : Nat} : (rangeW lo n).length = n := by simp [rangeW]
theorem runs_range {F : Hp} {ρ : List Addr} {H : Hp} {lo : Int} {n : Nat} : Runs K (Itr lo n) F ρ H (rangeW lo n) (fun _ => True) := by
  refine ⟨fun i wi F2 ρ2 H2 μ2 hi g2 k2 kp => ?_, fun F2 ρ2 H2 μ2 g2 k2 kp => ?_⟩
  · have hl : i < n := by
      obtain ⟨q, _⟩ := List.getElem?_eq_some_iff.mp hi
      rw [rangeW_len] at q
      exact q
    refine ⟨hl, fun x H3 y => ⟨F2, ρ2, by rw [y.1]; exact Go.refl, by rw [y.1]; exact k2, ?_⟩⟩
    rw [y.2]
    have z : wi = .i (lo + (i : Nat)) := by
      unfold rangeW at hi
      rw [List.getElem?_map, List.getElem?_range hl] at hi
      exact (Option.some.inj hi).symm
    rw [z]
    exact Dp.int _
  · show n ≤ (rangeW lo n).length
    rw [rangeW_len]
    exact Nat.le_refl _
theorem ei_rng1 {j : Int} (e : EvA K ta δ μ [.i j] μ1) (h1 : -(2 ^ 62) ≤ j) (h2 : j < 2 ^ 62) : EvI K (iRng1 ta) δ μ (rangeW 0 j.toNat) (fun _ => True) μ1 := fun F ρ H σ R k s q =>
  e F ρ H σ _ k s fun vs F1 ρ1 H1 g1 k1 e1 => by
    cases e1 with
    | cons a b =>
      have z := vw_int a
      have z2 := pr_nilR b
      subst z
      subst z2
      exact ⟨j, rfl, h1, h2, q _ F1 ρ1 H1 g1 k1 runs_range⟩
theorem ei_rng2 {i j : Int} (e : EvA K ta δ μ [.i i, .i j] μ1) (h : -(2 ^ 62) ≤ i ∧ i < 2 ^ 62 ∧ -(2 ^ 62) ≤ j ∧ j < 2 ^ 62) : EvI K (iRng2 ta) δ μ (rangeW i (j - i).toNat) (fun _ => True) μ1 := fun F ρ H σ R k s q =>
  e F ρ H σ _ k s fun vs F1 ρ1 H1 g1 k1 e1 => by
    cases e1 with
    | cons a b =>
      cases b with
      | cons b c =>
        have z := vw_int a
        have z1 := vw_int b
        have z2 := pr_nilR c
        subst z
        subst z1
        subst z2
        exact ⟨i, j, rfl, h, q _ F1 ρ1 H1 g1 k1 runs_range⟩
/-- what a turn's end must be -/
def Lp (P : Dl → Mu → Prop) (O : SO → Prop) : SO → Prop
  | .nx δ μ => P δ μ
  | .ct δ μ => P δ μ
  | .brk δ μ => O (.nx δ μ)
  | .ret w μ => O (.ret w μ)
  | .exc C δ μ => O (.exc C δ μ)
theorem st_for (hi : EvI K wi δ μ ws Kp μ1) (P : Nat → Dl → Mu → Prop) (h0 : P 0 δ μ1) (hk : ∀ i δ μ, P i δ μ → Kp μ)
    (hs : ∀ (i : Nat) (w : W) (δi : Dl) (μi : Mu), ws[i]? = some w → P i δi μi → ∃ δ2 μ2, EvG K g w δi μi δ2 μ2 ∧ St K X tb δ2 μ2 (Lp (P (i + 1)) O))
    (hd : ∀ δi μi, P ws.length δi μi → O (.nx δi μi)) : St K X (tFor wi g tb) δ μ O := fun F ρ H σ D k s q =>
  hi F ρ H σ _ k s fun J F1 ρ1 H1 g1 k1 r1 => by
    refine ⟨fun i m σi Hi => m = ws.length - i ∧ i ≤ ws.length ∧ ∃ Fi ρi δi μi, Go F1 ρ1 H1 Fi ρi Hi ∧ Ok K Fi ρi Hi μi ∧ Sl K Fi ρi σi δi ∧ P i δi μi, ⟨_, rfl, Nat.zero_le _, F1, ρ1, δ, μ1, Go.refl, k1, sl_go g1 s, h0⟩, ?_⟩
    rintro i m σi Hi ⟨rfl, hi, Fi, ρi, δi, μi, gi, ki, si, pi⟩
    by_cases hlt : i < ws.length
    · obtain ⟨hgo, hy⟩ := r1.go i ws[i] Fi ρi Hi μi (List.getElem?_eq_getElem hlt) gi ki (hk i δi μi pi)
      obtain ⟨δ2, μ2, hg, hb⟩ := hs i ws[i] δi μi (List.getElem?_eq_getElem hlt) pi
      refine .inr ⟨hgo, fun σ' H' => ∃ F' ρ' δ' μ', Go F1 ρ1 H1 F' ρ' H' ∧ Ok K F' ρ' H' μ' ∧ Sl K F' ρ' σ' δ' ∧ P (i + 1) δ' μ', fun σ' H' z => ⟨ws.length - (i + 1), by omega, rfl, hlt, z⟩, fun x H3 y => ?_⟩
      obtain ⟨F3, ρ3, g3, k3, v3⟩ := hy x H3 y
      refine hg F3 ρ3 H3 σi x _ k3 (sl_go g3 si) v3 fun σ4 F4 ρ4 H4 g4 k4 s4 => ?_
      refine hb F4 ρ4 H4 σ4 _ k4 s4 fun o ho => ?_
      have gg := (gi.trans g3).trans g4
      cases o with
      | nx δ5 μ5 => exact fun σ' F' ρ' H' g' k' s' => ⟨F', ρ', δ5, μ5, gg.trans g', k', s', ho⟩
      | ct δ5 μ5 => exact fun σ' F' ρ' H' g' k' s' => ⟨F', ρ', δ5, μ5, gg.trans g', k', s', ho⟩
      | brk δ5 μ5 => exact Post.go (g1.trans gg) (q _ ho)
      | ret w μ5 => exact Post.go (g1.trans gg) (q _ ho)
      | exc C δ5 μ5 => exact Post.go (g1.trans gg) (q _ ho)
    · have e : i = ws.length := by omega
      subst e
      exact .inl ⟨r1.stop Fi ρi Hi μi gi ki (hk _ δi μi pi), q _ (hd δi μi pi) σi Fi ρi Hi (g1.trans gi) ki si⟩
end
end DL

set_option Elab.async false
set_option linter.all false
set_option maxRecDepth 100000
set_option maxHeartbeats 2000000
namespace DL
open PySem PySem.Spec PyProof.Rows L2
variable [Wd]

section
variable {K : PySem.W.Frag} {F F' F1 H H' H1 : Hp} {ρ ρ' ρ1 : List Addr} {μ : Mu} {D : Addr} {o : HO} {c : Cell}
theorem Go.other (g : Go F ρ H F' ρ' H') (h : H D = none) : Go F ρ H F' ρ' (upd H' D o) :=
  ⟨g.ex, g.pre, fun b u e hb => by
    rw [upd_ne (ne_of_none e h)]
    exact g.fr b u e hb, g.nw, g.nf, fun b z => by
    by_cases q : b = D
    · subst q
      rw [upd_same]
      intro z
      cases z
    · rw [upd_ne q]
      exact g.tr b z⟩
theorem Ok.other (k : Ok K F ρ H μ) (hF : F D = none) (hr : D ∉ ρ) : Ok K F ρ (upd H D o) μ :=
  ⟨k.ex.updR hF, k.len, k.nd, fun a ha => by
    rw [upd_ne (fun q => hr (by rw [← q]; exact ha))]
    exact k.tr a ha, fun n a c e1 e2 => cell_ex (Ex.refl F) rfl (k.ce n a c e1 e2) (upd_ne fun q => hr (by rw [← q]; exact List.mem_of_getElem? e1))⟩
/-- an object that stands is frozen -/
theorem Ok.adopt (k : Ok K F ρ H μ) (hF : F D = none) (hr : D ∉ ρ) (h : H D = some o) : Ok K (upd F D o) ρ H μ :=
  ⟨fun a u e => by
    by_cases q : a = D
    · subst q
      rw [upd_same] at e
      cases e
      exact h
    · rw [upd_ne q] at e
      exact k.ex a u e, k.len, k.nd, k.tr, fun n a c e1 e2 => cell_ex (Ex.new hF) (upd_ne fun q => hr (by rw [← q]; exact List.mem_of_getElem? e1)) (k.ce n a c e1 e2) rfl⟩
theorem Go.adopt (g : Go F1 ρ1 H1 F ρ H) (hF : F D = none) (h1 : H1 D = none) : Go F1 ρ1 H1 (upd F D o) ρ H :=
  ⟨g.ex.trans (Ex.new hF), g.pre, g.fr, g.nw, fun b z => by
    by_cases q : b = D
    · subst q
      exact .inr (.inl h1)
    · rw [upd_ne q] at z
      exact g.nf b z, g.tr⟩
/-- an object that stands becomes a cell -/
theorem Ok.enter (k : Ok K F ρ H μ) (hF : F D = none) (hr : D ∉ ρ) (h : H D = some o) (hc : CellOk K F (ρ ++ [D]) H D c) : Ok K F (ρ ++ [D]) H (μ ++ [c]) := by
  refine ⟨k.ex, by simp [k.len], ?_, fun a ha => ?_, fun n a c' e1 e2 => ?_⟩
  · exact List.nodup_append.mpr ⟨k.nd, by simp, fun a ha b hb e => by
      simp at hb
      subst hb
      subst e
      exact hr ha⟩
  · rcases List.mem_append.mp ha with z | z
    · exact k.tr a z
    · simp at z
      subst z
      rw [h]
      intro z
      cases z
  · have at_ : ∀ (v : V) (w : W), VW K F ρ v w → VW K F (ρ ++ [D]) v w := fun v w q => by
      cases w with
      | d x => exact q
      | p n =>
        obtain ⟨b, e, z⟩ := q
        exact ⟨b, by rw [List.getElem?_append_left (List.getElem?_eq_some_iff.mp e).1]; exact e, z⟩
      | r u => exact q
    by_cases q : n < ρ.length
    · rw [List.getElem?_append_left q] at e1
      rw [List.getElem?_append_left (by rw [← k.len]; exact q)] at e2
      have old := k.ce n a c' e1 e2
      cases c' with
      | gone => trivial
      | lst xs =>
        obtain ⟨h1, vs, h2, h3⟩ := old
        exact ⟨h1, vs, h2, pr_mono at_ h3⟩
      | ins C fs =>
        obtain ⟨h1, dx, fv, h2, h3⟩ := old
        exact ⟨h1, dx, fv, h2, pr_mono (fun _ _ q => ⟨q.1, at_ _ _ q.2⟩) h3⟩
      | dk ks =>
        obtain ⟨h1, vs, h2, h3⟩ := old
        exact ⟨h1, vs, h2, pr_mono (fun _ _ q => ⟨q.1, at_ _ _ q.2⟩) h3⟩
      | dn ks =>
        obtain ⟨h1, vs, h2, h4, h3⟩ := old
        exact ⟨h1, vs, h2, h4, pr_mono (fun _ _ q => ⟨q.1, at_ _ _ q.2⟩) h3⟩
    · have q' : ρ.length ≤ n := Nat.le_of_not_lt q
      rw [List.getElem?_append_right q'] at e1
      rw [List.getElem?_append_right (by rw [← k.len]; exact q')] at e2
      have z : n - ρ.length = 0 := by
        cases y : n - ρ.length with
        | zero => rfl
        | succ m => rw [y] at e1; simp at e1
      have z2 : n - μ.length = 0 := by rw [← k.len]; exact z
      rw [z] at e1
      rw [z2] at e2
      simp at e1 e2
      subst e1
      subst e2
      exact hc
theorem Go.enter (g : Go F1 ρ1 H1 F ρ H) (h1 : H1 D = none) : Go F1 ρ1 H1 F (ρ ++ [D]) H := by
  obtain ⟨t, e⟩ := g.pre
  refine ⟨g.ex, ⟨t ++ [D], by rw [e, List.append_assoc]⟩, g.fr, fun b hb => ?_, g.nf, g.tr⟩
  rcases List.mem_append.mp hb with z | z
  · exact g.nw b z
  · simp at z
    subst z
    exact .inr h1
end

/-! ### comprehensions -/
def wipeD (δ : Dl) : List Nat → Dl
  | [] => δ
  | v :: vs => (wipeD δ vs).set v none
theorem sl_wipe {K : PySem.W.Frag} {F : Hp} {ρ : List Addr} {σ : L2.St} {δ : Dl} (s : Sl K F ρ σ δ) : ∀ vs : List Nat, Sl K F ρ (wipe σ vs) (wipeD δ vs)
  | [] => s
  | v :: vs => sl_un (sl_wipe s vs)
/-- the target stores at the names vs alone -/
def Tg (g : TG) (vs : List Nat) : Prop := ∀ v σ H Q, g v σ H Q → g v σ H fun σ' H' => Q σ' H' ∧ wipe σ' vs = wipe σ vs
def Tgs (g : TGs) (vs : List Nat) : Prop := ∀ xs σ H Q, g xs σ H Q → g xs σ H fun σ' H' => Q σ' H' ∧ wipe σ' vs = wipe σ vs
theorem wipe_set {i : Nat} {y : Option V} : ∀ {us : List Nat} {σ : L2.St}, i ∈ us → wipe (σ.set i y) us = wipe σ us := by
  intro us
  induction us with
  | nil => intro σ h; simp at h
  | cons u us ih =>
    intro σ h
    show (wipe (σ.set i y) us).set u none = (wipe σ us).set u none
    by_cases q : i ∈ us
    · rw [ih q]
    · have e : i = u := by
        rcases List.mem_cons.mp h with z | z
        · exact z
        · exact absurd z q
      subst e
      have com : ∀ (us : List Nat), i ∉ us → wipe (σ.set i y) us = (wipe σ us).set i y := by
        intro us
        induction us with
        | nil => intro _; rfl
        | cons u us ih2 =>
          intro hq
          have hq1 : i ≠ u := fun e => hq (by rw [e]; exact List.mem_cons_self)
          have hq2 : i ∉ us := fun e => hq (List.mem_cons_of_mem _ e)
          show (wipe (σ.set i y) us).set u none = ((wipe σ us).set u none).set i y
          rw [ih2 hq2, List.set_comm _ _ hq1]
      rw [com us q, List.set_set]
theorem wipe_idem (us : List Nat) : ∀ (vs : List Nat) (σ : L2.St), (∀ v, v ∈ vs → v ∈ us) → wipe (wipe σ vs) us = wipe σ us := by
  intro vs
  induction vs with
  | nil => intro σ _; rfl
  | cons v vs ih =>
    intro σ h
    show wipe ((wipe σ vs).set v none) us = wipe σ us
    rw [wipe_set (h v List.mem_cons_self)]
    exact ih σ fun x hx => h x (List.mem_cons_of_mem _ hx)
theorem tg_name {i : Nat} {vs : List Nat} (h : i ∈ vs) : Tg (gName i) vs := fun v σ H Q q => ⟨q, wipe_set h⟩
theorem tgs_nil {vs : List Nat} : Tgs gNil vs := fun xs σ H Q q => ⟨q.1, q.2, rfl⟩
/-- targets are monotone -/
def Mg (g : TG) : Prop := ∀ v σ H Q Q', (∀ σ' H', Q σ' H' → Q' σ' H') → g v σ H Q → g v σ H Q'
def Mgs (g : TGs) : Prop := ∀ xs σ H Q Q', (∀ σ' H', Q σ' H' → Q' σ' H') → g xs σ H Q → g xs σ H Q'
theorem mg_name {i : Nat} : Mg (gName i) := fun v σ H Q Q' f q => f _ _ q
theorem mgs_nil : Mgs gNil := fun xs σ H Q Q' f q => ⟨q.1, f _ _ q.2⟩
theorem mgs_cons {g : TG} {gs : TGs} (a : Mg g) (b : Mgs gs) : Mgs (gCons g gs) := fun xs σ H Q Q' f q => by
  obtain ⟨v, r, e, z⟩ := q
  exact ⟨v, r, e, a _ _ _ _ _ (fun σ' H' z => b _ _ _ _ _ f z) z⟩
theorem mg_tup {K : PySem.W.Frag} {n : Nat} {gs : TGs} (b : Mgs gs) : Mg (gTup K n gs) := fun v σ H Q Q' f q => by
  obtain ⟨a, xs, e, s, l, z⟩ := q
  exact ⟨a, xs, e, s, l, b _ _ _ _ _ f z⟩
theorem tgs_cons {g : TG} {gs : TGs} {vs : List Nat} (m : Mg g) (mm : Mgs gs) (a : Tg g vs) (b : Tgs gs vs) : Tgs (gCons g gs) vs := fun xs σ H Q q => by
  obtain ⟨v, r, e, z⟩ := q
  refine ⟨v, r, e, m _ _ _ _ _ (fun σ' H' y => ?_) (a _ _ _ _ z)⟩
  exact mm _ _ _ _ _ (fun σ2 H2 w => ⟨w.1, w.2.trans y.2⟩) (b _ _ _ _ y.1)
theorem tg_tup {K : PySem.W.Frag} {n : Nat} {gs : TGs} {vs : List Nat} (b : Tgs gs vs) : Tg (gTup K n gs) vs := fun v σ H Q q => by
  obtain ⟨a, xs, e, s, l, z⟩ := q
  exact ⟨a, xs, e, s, l, b _ _ _ _ z⟩

section
variable {K : PySem.W.Frag} {X : WX} {δ δ1 δ2 : Dl} {μ μ1 μ2 μ' : Mu} {te : TE} {tt : TT} {ta : TA} {w : W} {ws : List W} {O : SO → Prop} {wi : TI} {g : TG} {tb : TS} {Kp : Mu → Prop} {vs : List Nat}
theorem lc_core (hi : EvI K wi δ μ ws Kp μ1) (mg : Mg g) (tg : Tg g vs) (hz : ws.length ≤ sizeLine) (P : Nat → Mu → List W → Prop) (h0 : P 0 μ1 []) (hk : ∀ i μ acc, P i μ acc → Kp μ)
    (hs : ∀ (i : Nat) (w : W) (μi : Mu) (acc : List W), ws[i]? = some w → P i μi acc → ∃ δ2 μ2 b μ3, EvG K g w (wipeD δ vs) μi δ2 μ2 ∧ EvT K tt δ2 μ2 b μ3 ∧
      (b = true → ∃ y μ4, Ev K te δ2 μ3 y μ4 ∧ P (i + 1) μ4 (acc ++ [y])) ∧ (b = false → P (i + 1) μ3 acc))
    {F : Hp} {ρ : List Addr} {H : Hp} {σ : L2.St} {Q : VK} (k : Ok K F ρ H μ) (s : Sl K F ρ σ δ)
    (q : ∀ D F' ρ' H' μ' acc accV, H D = none → Go F ρ H F' ρ' H' → Ok K F' ρ' H' μ' → F' D = none → D ∉ ρ' → H' D = some (.lst accV) → Paired (VW K F' ρ') accV acc → P ws.length μ' acc → Q (.ref D) H') : tLc wi g tt te vs σ H Q := by
  refine hi F ρ H σ _ k s fun J F1 ρ1 H1 g1 k1 r1 => fun D hD => ?_
  have hHD : H D = none := by
    cases e : H D with
    | none => rfl
    | some o => exact absurd hD (g1.tr D (by rw [e]; intro z; cases z))
  obtain ⟨hF1, hr1⟩ := k1.free hD
  refine ⟨fun i m Hi => m = ws.length - i ∧ i ≤ ws.length ∧ ∃ Fi ρi μi acc accV, Go F1 ρ1 H1 Fi ρi Hi ∧ Ok K Fi ρi Hi μi ∧ Fi D = none ∧ D ∉ ρi ∧ Hi D = some (.lst accV) ∧ Paired (VW K Fi ρi) accV acc ∧ acc.length ≤ i ∧ P i μi acc,
    ⟨_, rfl, Nat.zero_le _, F1, ρ1, μ1, [], [], Go.refl.other hD, k1.other hF1 hr1, hF1, hr1, upd_same, .nil, Nat.le_refl _, h0⟩, ?_⟩
  rintro i m Hi ⟨rfl, hi, Fi, ρi, μi, acc, accV, gi, ki, fD, nD, eD, pr, la, pi⟩
  by_cases hlt : i < ws.length
  · obtain ⟨hgo, hy⟩ := r1.go i ws[i] Fi ρi Hi μi (List.getElem?_eq_getElem hlt) gi ki (hk i μi acc pi)
    obtain ⟨δ2, μ2, b, μ3, hg, ht, hT, hF⟩ := hs i ws[i] μi acc (List.getElem?_eq_getElem hlt) pi
    have keepD : ∀ {Fa : Hp} {ρa : List Addr} {Ha : Hp} {Fb : Hp} {ρb : List Addr} {Hb : Hp} {l : List V}, Go Fa ρa Ha Fb ρb Hb → Fa D = none → D ∉ ρa → Ha D = some (.lst l) → Fb D = none ∧ D ∉ ρb ∧ Hb D = some (.lst l) := by
      intro Fa ρa Ha Fb ρb Hb l gg a1 a2 a3
      refine ⟨?_, fun z => ?_, gg.fr D _ a3 a2⟩
      · cases e : Fb D with
        | none => rfl
        | some o =>
          rcases gg.nf D (by rw [e]; intro z; cases z) with z | z | z
          · exact absurd a1 z
          · rw [a3] at z
            cases z
          · exact absurd z a2
      · rcases gg.nw D z with y | y
        · exact a2 y
        · rw [a3] at y
          cases y
    refine .inr ⟨hgo, fun H' => ∃ F' ρ' μ' acc accV, Go F1 ρ1 H1 F' ρ' H' ∧ Ok K F' ρ' H' μ' ∧ F' D = none ∧ D ∉ ρ' ∧ H' D = some (.lst accV) ∧ Paired (VW K F' ρ') accV acc ∧ acc.length ≤ i + 1 ∧ P (i + 1) μ' acc,
      fun H' z => ⟨ws.length - (i + 1), by omega, rfl, hlt, z⟩, fun x H3 y => ?_⟩
    obtain ⟨F3, ρ3, g3, k3, v3⟩ := hy x H3 y
    have s3 : Sl K F3 ρ3 (wipe σ vs) (wipeD δ vs) := sl_wipe (sl_go g3 (sl_go gi (sl_go g1 s))) vs
    have hmono := tg x (wipe σ vs) H3 (fun σ4 H4 => ∃ F4 ρ4, Go F3 ρ3 H3 F4 ρ4 H4 ∧ Ok K F4 ρ4 H4 μ2 ∧ Sl K F4 ρ4 σ4 δ2) (hg F3 ρ3 H3 (wipe σ vs) x _ k3 s3 v3 fun σ4 F4 ρ4 H4 g4 k4 s4 => ⟨F4, ρ4, g4, k4, s4⟩)
    have idem : wipe (wipe σ vs) vs = wipe σ vs := wipe_idem vs vs σ fun _ h => h
    refine mg _ _ _ _ _ (fun σ4 H4 z => ?_) hmono
    obtain ⟨⟨F4, ρ4, g4, k4, s4⟩, ew⟩ := z
    refine ⟨ew.trans idem, ?_⟩
    refine ht F4 ρ4 H4 σ4 _ k4 s4 fun F5 ρ5 H5 g5 k5 => ?_
    have g35 := (g3.trans g4).trans g5
    cases b with
    | true =>
      refine iteT ?_
      obtain ⟨y, μ4, he, hP⟩ := hT rfl
      refine he F5 ρ5 H5 σ4 _ k5 (sl_go g5 s4) fun v6 F6 ρ6 H6 g6 k6 e6 => ?_
      have gg := g35.trans g6
      obtain ⟨d1, d2, d3⟩ := keepD gg fD nD eD
      refine ⟨accV, d3, by rw [pr_len pr]; omega, F6, ρ6, μ4, acc ++ [y], accV ++ [v6], (gi.trans gg).other hD, k6.other d1 d2, d1, d2, upd_same, pr_app (vws_go gg pr) (.cons e6 .nil), by simp; exact la, hP⟩
    | false =>
      refine iteF ?_
      obtain ⟨d1, d2, d3⟩ := keepD g35 fD nD eD
      exact ⟨F5, ρ5, μ3, acc, accV, gi.trans g35, k5, d1, d2, d3, vws_go g35 pr, by omega, hF rfl⟩
  · have e : i = ws.length := by omega
    subst e
    exact .inl ⟨r1.stop Fi ρi Hi μi gi ki (hk _ μi acc pi), q D Fi ρi Hi μi acc accV hHD (g1.trans gi) ki fD nD eD pr pi⟩
end
end DL

set_option Elab.async false
set_option linter.all false
set_option maxRecDepth 100000
set_option maxHeartbeats 2000000
namespace DL
open PySem PySem.Spec PyProof.Rows L2
variable [Wd]
section
variable {K : PySem.W.Frag} {X : WX} {δ δ1 δ2 : Dl} {μ μ1 μ2 μ' : Mu} {te : TE} {tt : TT} {ta : TA} {w : W} {ws : List W} {O : SO → Prop} {wi : TI} {g : TG} {tb : TS} {Kp : Mu → Prop} {vs : List Nat}
/-- a comprehension by an invariant (turn, store, items so far): a list of data -/
theorem ev_lcD {xs : List PyData} (hi : EvI K wi δ μ ws Kp μ1) (mg : Mg g) (tg : Tg g vs) (hz : ws.length ≤ sizeLine) (P : Nat → Mu → List W → Prop) (h0 : P 0 μ1 []) (hk : ∀ i μ acc, P i μ acc → Kp μ)
    (hs : ∀ (i : Nat) (w : W) (μi : Mu) (acc : List W), ws[i]? = some w → P i μi acc → ∃ δ2 μ2 b μ3, EvG K g w (wipeD δ vs) μi δ2 μ2 ∧ EvT K tt δ2 μ2 b μ3 ∧
      (b = true → ∃ y μ4, Ev K te δ2 μ3 y μ4 ∧ P (i + 1) μ4 (acc ++ [y])) ∧ (b = false → P (i + 1) μ3 acc))
    (hd : ∀ μi acc, P ws.length μi acc → μi = μ' ∧ acc = xs.map .d) : Ev K (tLc wi g tt te vs) δ μ (.d (.list xs)) μ' := fun F ρ H σ Q k s q =>
  lc_core hi mg tg hz P h0 hk hs k s fun D F' ρ' H' μi acc accV hH g' k' fD nD eD pr p => by
    obtain ⟨e1, e2⟩ := hd μi acc p
    subst e1
    subst e2
    exact q _ _ _ _ (g'.adopt fD hH) (k'.adopt fD nD eD) (wv_l (SqL.of upd_same) (pr_mono (fun _ _ => dp_ex (Ex.new fD)) (pr_dun pr)))
theorem ev_lcP {xs : List W} (hi : EvI K wi δ μ ws Kp μ1) (mg : Mg g) (tg : Tg g vs) (hz : ws.length ≤ sizeLine) (P : Nat → Mu → List W → Prop) (h0 : P 0 μ1 []) (hk : ∀ i μ acc, P i μ acc → Kp μ)
    (hs : ∀ (i : Nat) (w : W) (μi : Mu) (acc : List W), ws[i]? = some w → P i μi acc → ∃ δ2 μ2 b μ3, EvG K g w (wipeD δ vs) μi δ2 μ2 ∧ EvT K tt δ2 μ2 b μ3 ∧
      (b = true → ∃ y μ4, Ev K te δ2 μ3 y μ4 ∧ P (i + 1) μ4 (acc ++ [y])) ∧ (b = false → P (i + 1) μ3 acc))
    (hd : ∀ μi acc, P ws.length μi acc → μi = μ' ∧ acc = xs) : Ev K (tLc wi g tt te vs) δ μ (.p μ'.length) (μ' ++ [.lst xs]) := fun F ρ H σ Q k s q =>
  lc_core hi mg tg hz P h0 hk hs k s fun D F' ρ' H' μi acc accV hH g' k' fD nD eD pr p => by
    obtain ⟨e1, e2⟩ := hd μi acc p
    subst e1
    subst e2
    have at_ : ∀ (v : V) (w : W), VW K F' ρ' v w → VW K F' (ρ' ++ [D]) v w := fun v w q => by
      cases w with
      | d x => exact q
      | p n =>
        obtain ⟨b, e, z⟩ := q
        exact ⟨b, by rw [List.getElem?_append_left (List.getElem?_eq_some_iff.mp e).1]; exact e, z⟩
      | r u => exact q
    exact q _ _ _ _ (g'.enter hH) (k'.enter fD nD eD ⟨fD, accV, eD, pr_mono at_ pr⟩) ⟨D, by rw [← k'.len]; simp, rfl⟩
/-- .. where no store changes: filter and map -/
theorem ev_lcF {f : W → PyData} {p : W → Bool} (hi : EvI K wi δ μ ws Kp μ1) (mg : Mg g) (tg : Tg g vs) (hz : ws.length ≤ sizeLine) (hk : Kp μ1)
    (hs : ∀ (i : Nat) (w : W), ws[i]? = some w → ∃ δ2, EvG K g w (wipeD δ vs) μ1 δ2 μ1 ∧ EvT K tt δ2 μ1 (p w) μ1 ∧ (p w = true → Ev K te δ2 μ1 (.d (f w)) μ1)) :
    Ev K (tLc wi g tt te vs) δ μ (.d (.list ((ws.filter p).map f))) μ1 :=
  ev_lcD hi mg tg hz (fun i μi acc => μi = μ1 ∧ acc = (((ws.take i).filter p).map f).map .d) ⟨rfl, rfl⟩ (fun i μi acc z => z.1 ▸ hk) (fun i w μi acc hw z => by
    obtain ⟨rfl, rfl⟩ := z
    obtain ⟨δ2, a, b, c⟩ := hs i w hw
    have et : ws.take (i + 1) = ws.take i ++ [w] := by
      rw [List.take_add_one, hw]
      rfl
    refine ⟨δ2, _, p w, _, a, b, fun hp => ⟨_, _, c hp, rfl, ?_⟩, fun hp => ⟨rfl, ?_⟩⟩
    · rw [et, List.filter_append, List.map_append, List.map_append]
      simp [hp]
    · rw [et, List.filter_append, List.map_append, List.map_append]
      simp [hp]) fun μi acc z => by
    obtain ⟨rfl, rfl⟩ := z
    rw [List.take_length]
    exact ⟨rfl, rfl⟩
/-- no tests: a true one -/
theorem et_nil : EvT K tYes δ μ true μ := fun F ρ H σ Q k s q => q F ρ H Go.refl k
end

/-! ### built-ins on data -/
section
variable {K : PySem.W.Frag} {X : WX} {δ δ1 δ2 : Dl} {μ μ1 μ2 μ3 μ' : Mu} {te : TE} {tt : TT} {ta : TA} {w x y z : W} {ws : List W} {O : SO → Prop}
def rLenU (K : PySem.W.Frag) : List V → Hp → VK → Prop := fun xs H Q => ∃ x n, xs = [x] ∧ LenV K x H n ∧ Q (.int n) H
theorem call_lenU {X : Cx} : CallR X (.builtin "len") (rLenU X.K) := call_len
theorem rc_len {xs : List W} (h : Seq μ w xs) : RC K (rLenU K) [w] μ (.i (xs.length : Nat)) μ := fun F ρ H vs Q k a q => by
  cases a with
  | cons a b =>
    have e := pr_nilR b
    subst e
    obtain ⟨p, us, rfl, hs, pr⟩ := seq_get k a h
    refine ⟨_, xs.length, rfl, ?_, q _ F ρ H Go.refl k (Dp.int _)⟩
    rcases hs with hs | hs
    · exact .inl ⟨us, hs, (pr_len pr).symm⟩
    · exact .inr ⟨us, hs, (pr_len pr).symm⟩
theorem rc_lenS {s : Str} (h : s.length ≤ sizeLine) : RC K (rLenU K) [.s s] μ (.i (s.length : Nat)) μ := fun F ρ H vs Q k a q => by
  cases a with
  | cons a b =>
    have e := pr_nilR b
    subst e
    have e := vw_s a
    subst e
    exact ⟨_, s.length, rfl, ⟨h, rfl⟩, q _ F ρ H Go.refl k (Dp.int _)⟩
def rAbs : List V → Hp → VK → Prop := fun xs H Q => ∃ i, xs = [.int i] ∧ Q (.int (if i < 0 then -i else i)) H
theorem call_absU {X : Cx} : CallR X (.builtin "abs") rAbs := call_abs
theorem rc_abs {i : Int} : RC K rAbs [.i i] μ (.i (if i < 0 then -i else i)) μ := fun F ρ H vs Q k a q => by
  cases a with
  | cons a b =>
    have e := pr_nilR b
    subst e
    have e := vw_int a
    subst e
    exact ⟨_, rfl, q _ F ρ H Go.refl k (Dp.int _)⟩
def rIntU : List V → Hp → VK → Prop := fun xs H Q => (∃ i, xs = [.int i] ∧ Q (.int i) H) ∨ ∃ k, xs = [.bl k] ∧ Q (.int (if k then 1 else 0)) H
theorem call_intU {X : Cx} : CallR X (.type "int") rIntU := call_int1
theorem rc_int {i : Int} : RC K rIntU [.i i] μ (.i i) μ := fun F ρ H vs Q k a q => by
  cases a with
  | cons a b =>
    have e := pr_nilR b
    subst e
    have e := vw_int a
    subst e
    exact .inl ⟨_, rfl, q _ F ρ H Go.refl k (Dp.int _)⟩
/-- isinstance(x, T), T built in -/
def tyD : PyData → String
  | .none => "NoneType"
  | .bool _ => "bool"
  | .int _ => "int"
  | .str _ => "str"
  | .list _ => "list"
  | .tuple _ => "tuple"
  | .dict _ => "dict"
theorem tyx_dp {H : Hp} {v : V} {a : PyData} (h : Dp K H v a) : TyX K H v (.type (tyD a)) := by
  cases h with
  | non => exact .base .non
  | bl b => exact .base (.bl b)
  | int i => exact .base (.int i)
  | str x => exact .base (.str x)
  | lst h t =>
    rcases h with (h | ⟨o, h⟩) | ⟨o, its, n, e1, e2, _⟩
    · exact .base (.lst h)
    · exact .base (.frz h)
    · exact .kList e1 e2
  | tup h t =>
    rcases h with (h | ⟨o, h⟩) | ⟨o, its, n, e1, e2, _⟩
    · exact .base (.tup h)
    · exact .fTuple h
    · exact .kTuple e1 e2
theorem rc_isi {a : PyData} {T : String} {b : Bool} (h : kitB (tyD a) T = some b) : RC K (rIsi K) [.d a, .r (.ty T)] μ (.b b) μ := fun F ρ H vs Q k p q => by
  cases p with
  | cons p1 p2 =>
    cases p2 with
    | cons p2 p3 =>
      have e := pr_nilR p3
      subst e
      have e2 : _ = V.ty T := p2
      subst e2
      exact ⟨_, _, _, _, b, rfl, .ty T, tyx_dp (dp_ex k.ex p1), kit_ty h, q _ F ρ H Go.refl k (Dp.bl _)⟩
/-- a cell's list is a list -/
theorem rc_isiP {n : Nat} {xs : List W} {T : String} {b : Bool} (e : μ[n]? = some (.lst xs)) (h : kitB "list" T = some b) : RC K (rIsi K) [.p n, .r (.ty T)] μ (.b b) μ := fun F ρ H vs Q k p q => by
  cases p with
  | cons p1 p2 =>
    cases p2 with
    | cons p2 p3 =>
      have e3 := pr_nilR p3
      subst e3
      have e2 : _ = V.ty T := p2
      subst e2
      obtain ⟨a, ea, rfl⟩ := p1
      obtain ⟨c, ec, _, us, hu, _⟩ := k.at e
      rw [ea] at ec
      cases ec
      exact ⟨_, _, _, _, b, rfl, .ty T, .base (.lst hu), kit_ty h, q _ F ρ H Go.refl k (Dp.bl _)⟩
/-! ### list(..), tuple(..) -/
def rTupU (K : PySem.W.Frag) : List V → Hp → VK → Prop := fun xs H Q => ∃ p ys, xs = [.ref p] ∧ ((SqL K H p ys ∧ ∀ l, H l = none → Q (.ref l) (upd H l (.tup ys))) ∨ (SqT K H p ys ∧ Q (.ref p) H))
theorem call_tupU {X : Cx} : CallR X (.type "tuple") (rTupU X.K) := call_tuple_of
theorem rc_tup {xs : List PyData} (h : Seq μ w (xs.map .d)) : RC K (rTupU K) [w] μ (.d (.tuple xs)) μ := fun F ρ H vs Q k a q => by
  cases a with
  | cons a b =>
    have e := pr_nilR b
    subst e
    generalize hys : xs.map W.d = ys at h
    cases h with
    | l i =>
      obtain ⟨p, us, rfl, hs, pr⟩ := its_get k a i
      subst hys
      exact ⟨p, us, rfl, .inl ⟨hs, fun l hl => ok_tup k (pr_dun pr) hl q⟩⟩
    | t zs =>
      have ez : xs = zs := by
        have inj : ∀ (a b : List PyData), a.map W.d = b.map W.d → a = b := by
          intro a
          induction a with
          | nil => intro b h; cases b with | nil => rfl | cons _ _ => cases h
          | cons x xs ih =>
            intro b h
            cases b with
            | nil => cases h
            | cons y ys =>
              simp only [List.map_cons, List.cons.injEq] at h
              have := ih ys h.2
              injection h.1 with h1
              rw [h1, this]
        exact inj _ _ hys
      subst ez
      obtain ⟨p, us, rfl, hs, pr⟩ := vw_t a
      exact ⟨p, us, rfl, .inr ⟨ex_t k.ex hs, q _ F ρ H Go.refl k a⟩⟩
def rLstU (K : PySem.W.Frag) : List V → Hp → VK → Prop := fun xs H Q => ∃ p ys, xs = [.ref p] ∧ (SqL K H p ys ∨ SqT K H p ys) ∧ ∀ l, H l = none → Q (.ref l) (upd H l (.lst ys))
theorem call_lstU {X : Cx} : CallR X (.type "list") (rLstU X.K) := call_list_of
theorem rc_lstP {xs : List W} (h : Seq μ w xs) : RC K (rLstU K) [w] μ (.p μ.length) (μ ++ [.lst xs]) := fun F ρ H vs Q k a q => by
  cases a with
  | cons a b =>
    have e := pr_nilR b
    subst e
    obtain ⟨p, us, rfl, hs, pr⟩ := seq_get k a h
    exact ⟨p, us, rfl, hs, fun l hl => ok_cel k pr hl q⟩
theorem rc_lstD {xs : List PyData} (h : Seq μ w (xs.map .d)) : RC K (rLstU K) [w] μ (.d (.list xs)) μ := fun F ρ H vs Q k a q => by
  cases a with
  | cons a b =>
    have e := pr_nilR b
    subst e
    obtain ⟨p, us, rfl, hs, pr⟩ := seq_get k a h
    exact ⟨p, us, rfl, hs, fun l hl => ok_lst k (pr_dun pr) hl q⟩
/-! ### methods of built-in types -/
/-- o.m(..): o of the type T -/
theorem ev_bm {T : String} {r : V → List V → Hp → VK → Prop} (hv : ∀ (F : Hp) (ρ : List Addr) (H : Hp) (v : V), Ok K F ρ H μ1 → VW K F ρ v x → tyV K T v H) (h : Ev K te δ μ x μ1) (ha : EvA K ta δ μ1 ws μ2) (hr : RM K r x ws μ2 z μ3) : Ev K (tBM K T r te ta) δ μ z μ3 := fun F ρ H σ Q k s q =>
  h F ρ H σ _ k s fun v F1 ρ1 H1 g1 k1 e1 => ⟨hv F1 ρ1 H1 v k1 e1, ha F1 ρ1 H1 σ _ k1 (sl_go g1 s) fun vs F2 ρ2 H2 g2 k2 e2 => hr F2 ρ2 H2 v vs Q k2 (vw_go g2 e1) e2 fun v' F3 ρ3 H3 g3 k3 e3 => q v' F3 ρ3 H3 ((g1.trans g2).trans g3) k3 e3⟩
theorem ev_bm0 {T : String} {r : V → List V → Hp → VK → Prop} (hv : ∀ (F : Hp) (ρ : List Addr) (H : Hp) (v : V), Ok K F ρ H μ1 → VW K F ρ v x → tyV K T v H) (h : Ev K te δ μ x μ1) (hr : RM K r x [] μ1 z μ3) : Ev K (tBM0 K T r te) δ μ z μ3 := fun F ρ H σ Q k s q =>
  h F ρ H σ _ k s fun v F1 ρ1 H1 g1 k1 e1 => ⟨hv F1 ρ1 H1 v k1 e1, hr F1 ρ1 H1 v [] Q k1 e1 .nil fun v' F3 ρ3 H3 g3 k3 e3 => q v' F3 ρ3 H3 (g1.trans g3) k3 e3⟩
theorem tyv_cell {n : Nat} {xs : List W} (e : μ[n]? = some (.lst xs)) : ∀ (F : Hp) (ρ : List Addr) (H : Hp) (v : V), Ok K F ρ H μ → VW K F ρ v (.p n) → tyV K "list" v H := fun F ρ H v k a => by
  obtain ⟨a, ea, rfl⟩ := a
  obtain ⟨c, ec, _, us, hu, _⟩ := k.at e
  rw [ea] at ec
  cases ec
  exact .inl ⟨rfl, _, SqL.of hu⟩
theorem rm_append {n : Nat} {xs : List W} (e : μ[n]? = some (.lst xs)) (hz : xs.length < sizeLine) : RM K rAppend (.p n) [w] μ (.d .none) (μ.set n (.lst (xs ++ [w]))) := fun F ρ H v vs Q k a b q => by
  obtain ⟨a, ea, rfl⟩ := a
  obtain ⟨c, ec, hF, us, hu, pr⟩ := k.at e
  rw [ea] at ec
  cases ec
  cases b with
  | cons b1 b2 =>
    have e3 := pr_nilR b2
    subst e3
    obtain ⟨k3, g3⟩ := k.put (o := .lst (us ++ [_])) (c := .lst (xs ++ [w])) ea hF ⟨hF, _, upd_same, pr_app pr (.cons b1 .nil)⟩
    exact ⟨a, us, _, rfl, rfl, hu, by rw [pr_len pr]; exact hz, q _ _ _ _ g3 k3 Dp.non⟩
theorem rm_pop {n : Nat} {xs : List W} (e : μ[n]? = some (.lst xs)) (h : xs[xs.length - 1]? = some w) : RM K rPop (.p n) [] μ w (μ.set n (.lst xs.dropLast)) := fun F ρ H v vs Q k a b q => by
  obtain ⟨a, ea, rfl⟩ := a
  obtain ⟨c, ec, hF, us, hu, pr⟩ := k.at e
  rw [ea] at ec
  cases ec
  have e3 := pr_nilR b
  subst e3
  obtain ⟨y, hy, ry⟩ := pr_get pr h
  have pd : Paired (VW K F ρ) us.dropLast xs.dropLast := by
    rw [List.dropLast_eq_take, List.dropLast_eq_take, pr_len pr]
    exact pr_take _ pr
  obtain ⟨k3, g3⟩ := k.put (o := .lst us.dropLast) (c := .lst xs.dropLast) ea hF ⟨hF, _, upd_same, pd⟩
  exact ⟨a, us, y, rfl, rfl, hu, by rw [pr_len pr]; exact hy, q _ _ _ _ g3 k3 (vw_go g3 ry)⟩
/-! ### slices -/
theorem eo_some {i : Int} (h : Ev K te δ μ (.i i) μ1) : EvO K (tPart te) δ μ (some i) μ1 := fun F ρ H σ Q k s q =>
  h F ρ H σ _ k s fun v F1 ρ1 H1 g1 k1 e1 => ⟨i, vw_int e1, q F1 ρ1 H1 g1 k1⟩
theorem eo_no : EvO K tNoPart δ μ none μ := fun F ρ H σ Q k s q => q F ρ H Go.refl k
def cutD {α : Type} (xs : List α) (lo hi : Option Int) : List α := (xs.drop (HT.sIx xs.length 0 lo)).take (HT.sIx xs.length xs.length hi - HT.sIx xs.length 0 lo)
theorem pr_cut {α β : Type} {R : α → β → Prop} {xs : List α} {ys : List β} (p : Paired R xs ys) (lo hi : Option Int) : Paired R (cutD xs lo hi) (cutD ys lo hi) := by
  unfold cutD
  rw [pr_len p]
  exact pr_take _ (pr_drop _ p)
theorem cutV_eq (xs : List V) (lo hi : Option Int) : cutV xs lo hi = cutD xs lo hi := rfl
theorem cut_whole {α : Type} {xs : List α} {lo hi : Option Int} (h : HT.sIx xs.length 0 lo = 0 ∧ HT.sIx xs.length xs.length hi = xs.length) : cutD xs lo hi = xs := by
  unfold cutD
  rw [h.1, h.2]
  simp
def RS (K : PySem.W.Frag) (r : V → Option Int → Option Int → Hp → VK → Prop) (x : W) (lo hi : Option Int) (μ : Mu) (z : W) (μ' : Mu) : Prop :=
  ∀ (F : Hp) (ρ : List Addr) (H : Hp) (v : V) (Q : VK), Ok K F ρ H μ → VW K F ρ v x →
    (∀ v' F' ρ' H', Go F ρ H F' ρ' H' → Ok K F' ρ' H' μ' → VW K F' ρ' v' z → Q v' H') → r v lo hi H Q
theorem ev_sl {r : V → Option Int → Option Int → Hp → VK → Prop} {tl th : TO} {lo hi : Option Int} {μ4 : Mu} (h : Ev K te δ μ x μ1) (h1 : EvO K tl δ μ1 lo μ2) (h2 : EvO K th δ μ2 hi μ3) (hr : RS K r x lo hi μ3 z μ4) : Ev K (tSl r te tl th) δ μ z μ4 := fun F ρ H σ Q k s q =>
  h F ρ H σ _ k s fun v F1 ρ1 H1 g1 k1 e1 => h1 F1 ρ1 H1 σ _ k1 (sl_go g1 s) fun F2 ρ2 H2 g2 k2 => h2 F2 ρ2 H2 σ _ k2 (sl_go g2 (sl_go g1 s)) fun F3 ρ3 H3 g3 k3 =>
    hr F3 ρ3 H3 v Q k3 (vw_go g3 (vw_go g2 e1)) fun v' F4 ρ4 H4 g4 k4 e4 => q v' F4 ρ4 H4 (((g1.trans g2).trans g3).trans g4) k4 e4
/-- a slice of a list, a tuple, a text -/
def rSlU (K : PySem.W.Frag) : V → Option Int → Option Int → Hp → VK → Prop := fun x lo hi H Q => rSlL K x lo hi H Q ∨ rSlA K x lo hi H Q
theorem sl_U {X : Cx} : SlR X (rSlU X.K) := fun pins s σ H x v vl vu lo hi sl Q I rx hs pl pu h => by
  rcases h with h | h
  · exact sl_list pins s σ H x v vl vu lo hi sl Q I rx hs pl pu h
  · exact sl_tupA pins s σ H x v vl vu lo hi sl Q I rx hs pl pu h
theorem rs_tup {xs : List PyData} {lo hi : Option Int} : RS K (rSlU K) (.d (.tuple xs)) lo hi μ (.d (.tuple (cutD xs lo hi))) μ := fun F ρ H v Q k a q => by
  obtain ⟨p, us, rfl, hs, pr⟩ := vw_t a
  refine .inr ⟨p, us, rfl, ex_t k.ex hs, fun hw => ?_, fun hw l hl => ok_tup k (pr_cut pr lo hi) hl q⟩
  rw [pr_len pr] at hw
  rw [cut_whole hw] at q
  exact q _ F ρ H Go.refl k a
theorem rs_lstD {xs : List PyData} {lo hi : Option Int} (h : Its μ x (xs.map .d)) : RS K (rSlU K) x lo hi μ (.d (.list (cutD xs lo hi))) μ := fun F ρ H v Q k a q => by
  obtain ⟨p, us, rfl, hs, pr⟩ := its_get k a h
  exact .inl ⟨p, us, rfl, hs, fun l hl => ok_lst k (pr_cut (pr_dun pr) lo hi) hl q⟩
theorem rs_lstP {xs : List W} {lo hi : Option Int} (h : Its μ x xs) : RS K (rSlU K) x lo hi μ (.p μ.length) (μ ++ [.lst (cutD xs lo hi)]) := fun F ρ H v Q k a q => by
  obtain ⟨p, us, rfl, hs, pr⟩ := its_get k a h
  exact .inl ⟨p, us, rfl, hs, fun l hl => ok_cel k (pr_cut pr lo hi) hl q⟩
/-! ### + and * -/
theorem rv_catT {xs ys : List PyData} (hz : xs.length + ys.length ≤ sizeLine) : RV K (rCatA K) (.d (.tuple xs)) (.d (.tuple ys)) μ (.d (.tuple (xs ++ ys))) μ := fun F ρ H v u Q k a b q => by
  obtain ⟨p, us, rfl, hs, pr⟩ := vw_t a
  obtain ⟨p2, us2, rfl, hs2, pr2⟩ := vw_t b
  refine ⟨p, p2, us, us2, rfl, rfl, ex_t k.ex hs, ex_t k.ex hs2, by rw [pr_len pr, pr_len pr2]; exact hz, fun e => ?_, fun _ e => ?_, fun _ _ l hl => ok_tup k (pr_app pr pr2) hl q⟩
  · subst e
    have z := pr_nilL pr
    subst z
    exact q _ F ρ H Go.refl k b
  · subst e
    have z := pr_nilL pr2
    subst z
    rw [List.append_nil] at q
    exact q _ F ρ H Go.refl k a
theorem rv_repT {xs : List PyData} {n : Int} (h0 : xs ≠ []) (h1 : 2 ≤ n) (h2 : n ≤ 1000) (h3 : xs.length ≤ 1000) : RV K (rRepT K) (.d (.tuple xs)) (.i n) μ (.d (.tuple (List.replicate n.toNat xs).flatten)) μ := fun F ρ H v u Q k a b q => by
  obtain ⟨p, us, rfl, hs, pr⟩ := vw_t a
  refine ⟨p, n, us, rfl, vw_int b, ex_t k.ex hs, fun e => h0 (by subst e; exact pr_nilL pr), h1, h2, by rw [pr_len pr]; exact h3, fun l hl => ok_tup k (pr_flat (pr_rep pr _)) hl q⟩
theorem rv_repP {m : Nat} {xs : List W} {n : Int} (e : μ[m]? = some (.lst xs)) (h1 : -(2 ^ 63) ≤ n) (h2 : n < 2 ^ 63) (h3 : xs.length * n.toNat ≤ sizeLine) : RV K rRep (.p m) (.i n) μ (.p μ.length) (μ ++ [.lst (List.replicate n.toNat xs).flatten]) := fun F ρ H v u Q k a b q => by
  obtain ⟨a, ea, rfl⟩ := a
  obtain ⟨c, ec, hF, us, hu, pr⟩ := k.at e
  rw [ea] at ec
  cases ec
  exact ⟨a, n, us, rfl, vw_int b, hu, h1, h2, by rw [pr_len pr]; exact h3, fun l hl => ok_cel k (pr_flat (pr_rep pr _)) hl q⟩
/-! ### is of bools, None -/
theorem rv_isB {a b : Bool} : RV K rIsB (.b a) (.b b) μ (.b (decide (a = b))) μ := fun F ρ H v u Q k e1 e2 q => ⟨a, b, vw_b e1, vw_b e2, q _ F ρ H Go.refl k (Dp.bl _)⟩
theorem rv_notB {a b : Bool} : RV K rNotB (.b a) (.b b) μ (.b (!decide (a = b))) μ := fun F ρ H v u Q k e1 e2 q => ⟨a, b, vw_b e1, vw_b e2, q _ F ρ H Go.refl k (Dp.bl _)⟩
/-! ### fields -/
def putW (f : Str) (w : W) : List (Str × W) → List (Str × W)
  | [] => [(f, w)]
  | (g, x) :: r => if g = f then (g, w) :: r else (g, x) :: putW f w r
theorem pr_lookup {F : Hp} {ρ : List Addr} {f : Str} {w : W} : ∀ {fv : List (Str × V)} {fs : List (Str × W)}, Paired (FW K F ρ) fv fs → fs.lookup f = some w → ∃ v, fv.lookup f = some v ∧ VW K F ρ v w
  | _, _, .nil, h => nomatch h
  | (a, x) :: fv, (b, y) :: fs, .cons r t, h => by
    obtain ⟨e, q⟩ := r
    have e' : a = b := e
    subst e'
    unfold List.lookup at h ⊢
    cases c : f == a with
    | true =>
      rw [c] at h
      cases h
      exact ⟨x, rfl, q⟩
    | false =>
      rw [c] at h
      exact pr_lookup t h
theorem pr_lookup0 {F : Hp} {ρ : List Addr} {f : Str} : ∀ {fv : List (Str × V)} {fs : List (Str × W)}, Paired (FW K F ρ) fv fs → fs.lookup f = none → fv.lookup f = none
  | _, _, .nil, h => rfl
  | (a, x) :: fv, (b, y) :: fs, .cons r t, h => by
    obtain ⟨e, q⟩ := r
    have e' : a = b := e
    subst e'
    unfold List.lookup at h ⊢
    cases c : f == a with
    | true =>
      rw [c] at h
      cases h
    | false =>
      rw [c] at h
      exact pr_lookup0 t h
theorem pr_put {F : Hp} {ρ : List Addr} {f : Str} {v : V} {w : W} (r : VW K F ρ v w) : ∀ {fv : List (Str × V)} {fs : List (Str × W)}, Paired (FW K F ρ) fv fs → Paired (FW K F ρ) (putF f v fv) (putW f w fs)
  | _, _, .nil => .cons ⟨rfl, r⟩ .nil
  | (a, x) :: fv, (b, y) :: fs, .cons q t => by
    obtain ⟨e, z⟩ := q
    have e' : a = b := e
    subst e'
    unfold putF putW
    by_cases c : a = f
    · rw [if_pos c, if_pos c]
      exact .cons ⟨rfl, r⟩ t
    · rw [if_neg c, if_neg c]
      exact .cons ⟨rfl, z⟩ (pr_put r t)
theorem ev_fld {n : Nat} {C : Addr} {fs : List (Str × W)} {f : Str} (h : Ev K te δ μ (.p n) μ1) (e : μ1[n]? = some (.ins C fs)) (c : Cls K C) (na : NoAttr K C f) (l : fs.lookup f = some w) : Ev K (tFld K te f) δ μ w μ1 := fun F ρ H σ Q k s q =>
  h F ρ H σ _ k s fun v F1 ρ1 H1 g1 k1 e1 => by
    obtain ⟨a, ea, rfl⟩ := e1
    obtain ⟨c', ec, hF, dx, fv, hu, pr⟩ := k1.at e
    rw [ea] at ec
    cases ec
    obtain ⟨v, lv, rv⟩ := pr_lookup pr l
    exact ⟨a, C, dx, fv, v, rfl, hu, c, na, lv, q v F1 ρ1 H1 g1 k1 rv⟩
theorem st_fld {tv : TE} {n : Nat} {C : Addr} {fs : List (Str × W)} {f : Str} (hv : Ev K tv δ μ w μ1) (h : Ev K te δ μ1 (.p n) μ2) (e : μ2[n]? = some (.ins C fs)) (c : Cls K C) (na : NoAttr K C f) (hz : fs.length < 1000)
    (hO : O (.nx δ (μ2.set n (.ins C (putW f w fs))))) : St K X (sFld K te tv f) δ μ O := fun F ρ H σ D k s q =>
  hv F ρ H σ _ k s fun v F1 ρ1 H1 g1 k1 e1 => h F1 ρ1 H1 σ _ k1 (sl_go g1 s) fun v2 F2 ρ2 H2 g2 k2 e2 => by
    obtain ⟨a, ea, rfl⟩ := e2
    obtain ⟨c', ec, hF, dx, fv, hu, pr⟩ := k2.at e
    rw [ea] at ec
    cases ec
    obtain ⟨k3, g3⟩ := k2.put (o := .ins C dx (putF f v fv)) (c := .ins C (putW f w fs)) ea hF ⟨hF, dx, _, upd_same, pr_put (vw_go g2 e1) pr⟩
    exact ⟨a, C, dx, fv, rfl, hu, c, na, by rw [pr_len pr]; exact hz, q _ hO σ _ _ _ ((g1.trans g2).trans g3) k3 (sl_go g3 (sl_go g2 (sl_go g1 s)))⟩
end
end DL

set_option Elab.async false
set_option linter.all false
set_option maxRecDepth 100000
set_option maxHeartbeats 2000000
namespace DL
open PySem PySem.Spec PyProof.Rows L2
variable [Wd]
inductive FO where
  | ret (w : W) (μ : Mu)
  | exc (C : Value) (μ : Mu)
def PostF (K : PySem.W.Frag) (F : Hp) (ρ : List Addr) (H : Hp) (Q : VK) (E : XK) (o : FO) : Prop := match o with
  | .ret w μ => ∀ v F' ρ' H', Go F ρ H F' ρ' H' → Ok K F' ρ' H' μ → VW K F' ρ' v w → Q v H'
  | .exc C μ => ∀ F' ρ' H', Go F ρ H F' ρ' H' → Ok K F' ρ' H' μ → E C none H'
/-- what a def does: from its arguments' worths and the store, an end of which O is so -/
abbrev Spec := List W → Mu → (FO → Prop) → Prop
def spOf (K : PySem.W.Frag) (n : Nat) (Φ : Spec) : Sp := fun vs H Q E => vs.length = n ∧ ∃ F ρ μ ws O, Ok K F ρ H μ ∧ Paired (VW K F ρ) vs ws ∧ Φ ws μ O ∧ ∀ o, O o → PostF K F ρ H Q E o
def ClW (n : Nat) : W → Prop
  | .p k => k < n
  | _ => True
def ClC (n : Nat) : Cell → Prop
  | .gone => True
  | .lst xs => ∀ x, x ∈ xs → ClW n x
  | .ins _ fs => ∀ p, p ∈ fs → ClW n p.2
  | .dk fs => ∀ p, p ∈ fs → ClW n p.2
  | .dn fs => ∀ p, p ∈ fs → ClW n p.2
def ClM (μ : Mu) : Prop := ∀ c, c ∈ μ → ClC μ.length c
section
variable {K : PySem.W.Frag} {F F' H H' : Hp} {ρ ρ' : List Addr} {μ μ0 junk : Mu} {v : V} {w : W}
theorem vw_cl (h : VW K F ρ v w) : ClW ρ.length w := by
  cases w with
  | d x => trivial
  | r u => trivial
  | p n =>
    obtain ⟨a, e, _⟩ := h
    exact (List.getElem?_eq_some_iff.mp e).1
theorem Ok.cl (k : Ok K F ρ H μ) : ClM μ := fun c hc => by
  obtain ⟨n, hn⟩ := List.getElem?_of_mem hc
  obtain ⟨a, ea, co⟩ := k.at hn
  rw [← k.len]
  cases c with
  | gone => trivial
  | lst xs =>
    obtain ⟨_, vs, _, pr⟩ := co
    intro x hx
    obtain ⟨i, hi⟩ := List.getElem?_of_mem hx
    obtain ⟨v, _, r⟩ := pr_get pr hi
    exact vw_cl r
  | ins C fs =>
    obtain ⟨_, dx, vs, _, pr⟩ := co
    intro x hx
    obtain ⟨i, hi⟩ := List.getElem?_of_mem hx
    obtain ⟨v, _, r⟩ := pr_get pr hi
    exact vw_cl r.2
  | dk fs =>
    obtain ⟨_, vs, _, pr⟩ := co
    intro x hx
    obtain ⟨i, hi⟩ := List.getElem?_of_mem hx
    obtain ⟨v, _, r⟩ := pr_get pr hi
    exact vw_cl r.2
  | dn fs =>
    obtain ⟨_, vs, _, _, pr⟩ := co
    intro x hx
    obtain ⟨i, hi⟩ := List.getElem?_of_mem hx
    obtain ⟨v, _, r⟩ := pr_get pr hi
    exact vw_cl r.2
theorem vw_cut {n : Nat} (c : ClW n w) (h : VW K F ρ v w) : VW K F (ρ.take n) v w := by
  cases w with
  | d x => exact h
  | r u => exact h
  | p k =>
    obtain ⟨a, e, z⟩ := h
    exact ⟨a, by rw [List.getElem?_take_of_lt c]; exact e, z⟩
theorem Ok.cut (k : Ok K F ρ H (μ0 ++ junk)) (c : ClM μ0) : Ok K F (ρ.take μ0.length) H μ0 := by
  have hl : μ0.length ≤ ρ.length := by
    rw [k.len, List.length_append]
    omega
  refine ⟨k.ex, by rw [List.length_take]; omega, List.Sublist.nodup (List.take_sublist _ _) k.nd, fun a ha => k.tr a (List.mem_of_mem_take ha), fun n a cc e1 e2 => ?_⟩
  have hn : n < μ0.length := (List.getElem?_eq_some_iff.mp e2).1
  rw [List.getElem?_take_of_lt hn] at e1
  have old := k.ce n a cc e1 (by rw [List.getElem?_append_left hn]; exact e2)
  have cc' := c cc (List.mem_of_getElem? e2)
  have cutp : ∀ {xs : List W} {vs : List V}, (∀ x, x ∈ xs → ClW μ0.length x) → Paired (VW K F ρ) vs xs → Paired (VW K F (ρ.take μ0.length)) vs xs := by
    intro xs vs hc pr
    induction pr with
    | nil => exact .nil
    | cons r t ih => exact .cons (vw_cut (hc _ List.mem_cons_self) r) (ih fun x hx => hc x (List.mem_cons_of_mem _ hx))
  have cutf : ∀ {xs : List (Str × W)} {vs : List (Str × V)}, (∀ x, x ∈ xs → ClW μ0.length x.2) → Paired (FW K F ρ) vs xs → Paired (FW K F (ρ.take μ0.length)) vs xs := by
    intro xs vs hc pr
    induction pr with
    | nil => exact .nil
    | cons r t ih => exact .cons ⟨r.1, vw_cut (hc _ List.mem_cons_self) r.2⟩ (ih fun x hx => hc x (List.mem_cons_of_mem _ hx))
  have cutk : ∀ {xs : List (Key × W)} {vs : List (Key × V)}, (∀ x, x ∈ xs → ClW μ0.length x.2) → Paired (KW K F ρ) vs xs → Paired (KW K F (ρ.take μ0.length)) vs xs := by
    intro xs vs hc pr
    induction pr with
    | nil => exact .nil
    | cons r t ih => exact .cons ⟨r.1, vw_cut (hc _ List.mem_cons_self) r.2⟩ (ih fun x hx => hc x (List.mem_cons_of_mem _ hx))
  have cutn : ∀ {xs : List (NK × W)} {vs : NKs}, (∀ x, x ∈ xs → ClW μ0.length x.2) → Paired (NW K F ρ) vs xs → Paired (NW K F (ρ.take μ0.length)) vs xs := by
    intro xs vs hc pr
    induction pr with
    | nil => exact .nil
    | cons r t ih => exact .cons ⟨r.1, vw_cut (hc _ List.mem_cons_self) r.2⟩ (ih fun x hx => hc x (List.mem_cons_of_mem _ hx))
  cases cc with
  | gone => trivial
  | lst xs =>
    obtain ⟨h1, vs, h2, h3⟩ := old
    exact ⟨h1, vs, h2, cutp cc' h3⟩
  | ins C fs =>
    obtain ⟨h1, dx, fv, h2, h3⟩ := old
    exact ⟨h1, dx, fv, h2, cutf cc' h3⟩
  | dk fs =>
    obtain ⟨h1, vs, h2, h3⟩ := old
    exact ⟨h1, vs, h2, cutk cc' h3⟩
  | dn fs =>
    obtain ⟨h1, vs, h2, h4, h3⟩ := old
    exact ⟨h1, vs, h2, h4, cutn cc' h3⟩
theorem Go.cut {n : Nat} (g : Go F ρ H F' ρ' H') (h : ρ.length ≤ n) : Go F ρ H F' (ρ'.take n) H' := by
  obtain ⟨t, e⟩ := g.pre
  refine ⟨g.ex, ⟨t.take (n - ρ.length), ?_⟩, g.fr, fun b hb => g.nw b (List.mem_of_mem_take hb), g.nf, g.tr⟩
  rw [e, List.take_append, List.take_of_length_le h]
end

/-! ### calls -/
section
variable {K : PySem.W.Frag} {X : WX} {δ δ1 : Dl} {μ μ1 μ2 : Mu} {te : TE} {ta : TA} {w : W} {ws : List W} {O : SO → Prop} {Φ : Spec} {n : Nat} {C : Value} {E : L2.St → XK}
theorem ev_call (ha : EvA K ta δ μ ws μ1) (hn : ws.length = n) (h : Φ ws μ1 (· = .ret w μ2)) : Ev K (tCallS (spOf K n Φ) E ta) δ μ w μ2 := fun F ρ H σ Q k s q =>
  ha F ρ H σ _ k s fun vs F1 ρ1 H1 g1 k1 e1 => ⟨by rw [pr_len e1]; exact hn, F1, ρ1, μ1, ws, _, k1, e1, h, fun o ho => by
    subst ho
    exact fun v F2 ρ2 H2 g2 k2 e2 => q v F2 ρ2 H2 (g1.trans g2) k2 e2⟩
theorem evx_call (ha : EvA K ta δ μ ws μ1) (hn : ws.length = n) (h : Φ ws μ1 (· = .exc C μ2)) : EvX K X (tCallS (spOf K n Φ) (WE X) ta) δ μ C μ2 := fun F ρ H σ Q k s q =>
  ha F ρ H σ _ k s fun vs F1 ρ1 H1 g1 k1 e1 => ⟨by rw [pr_len e1]; exact hn, F1, ρ1, μ1, ws, _, k1, e1, h, fun o ho => by
    subst ho
    exact fun F2 ρ2 H2 g2 k2 => q F2 ρ2 H2 (g1.trans g2) k2⟩
/-- o.m(..) -/
def tMethU (C : Addr) (m : Str) (sp : Sp) (E : L2.St → XK) (ta : TE) (t : TA) : TE := fun σ H Q => ta σ H fun x H1 => ∃ a dx fs, x = .ref a ∧ H1 a = some (.ins C dx fs) ∧ fs.lookup m = none ∧
  t σ H1 fun vs H2 => sp (x :: vs) H2 Q (E σ)
theorem ev_meth {C : Addr} {m : Str} {c : Nat} {fs : List (Str × W)} (ho : Ev K te δ μ (.p c) μ1) (e : μ1[c]? = some (.ins C fs)) (hm : fs.lookup m = none) {μ3 : Mu} (ha : EvA K ta δ μ1 ws μ2) (hn : ws.length + 1 = n) (h : Φ (.p c :: ws) μ2 (· = .ret w μ3)) :
    Ev K (tMethU C m (spOf K n Φ) E te ta) δ μ w μ3 := fun F ρ H σ Q k s q =>
  ho F ρ H σ _ k s fun v F1 ρ1 H1 g1 k1 e1 => by
    obtain ⟨a, ea, rfl⟩ := id e1
    obtain ⟨c', ec, hF, dx, fv, hu, pr⟩ := k1.at e
    rw [ea] at ec
    cases ec
    refine ⟨a, dx, fv, rfl, hu, pr_lookup0 pr hm, ?_⟩
    refine ha F1 ρ1 H1 σ _ k1 (sl_go g1 s) fun vs F2 ρ2 H2 g2 k2 e2 => ?_
    refine ⟨by rw [List.length_cons, pr_len e2]; exact hn, F2, ρ2, μ2, .p c :: ws, _, k2, .cons (vw_go g2 e1) e2, h, fun o ho => ?_⟩
    subst ho
    exact fun v F3 ρ3 H3 g3 k3 e3 => q v F3 ρ3 H3 ((g1.trans g2).trans g3) k3 e3
theorem evx_meth {D : Addr} {m : Str} {c : Nat} {fs : List (Str × W)} (ho : Ev K te δ μ (.p c) μ1) (e : μ1[c]? = some (.ins D fs)) (hm : fs.lookup m = none) {μ3 : Mu} (ha : EvA K ta δ μ1 ws μ2) (hn : ws.length + 1 = n) (h : Φ (.p c :: ws) μ2 (· = .exc C μ3)) :
    EvX K X (tMethU D m (spOf K n Φ) (WE X) te ta) δ μ C μ3 := fun F ρ H σ Q k s q =>
  ho F ρ H σ _ k s fun v F1 ρ1 H1 g1 k1 e1 => by
    obtain ⟨a, ea, rfl⟩ := id e1
    obtain ⟨c', ec, hF, dx, fv, hu, pr⟩ := k1.at e
    rw [ea] at ec
    cases ec
    refine ⟨a, dx, fv, rfl, hu, pr_lookup0 pr hm, ?_⟩
    refine ha F1 ρ1 H1 σ _ k1 (sl_go g1 s) fun vs F2 ρ2 H2 g2 k2 e2 => ?_
    refine ⟨by rw [List.length_cons, pr_len e2]; exact hn, F2, ρ2, μ2, .p c :: ws, _, k2, .cons (vw_go g2 e1) e2, h, fun o ho => ?_⟩
    subst ho
    exact fun F3 ρ3 H3 g3 k3 => q F3 ρ3 H3 ((g1.trans g2).trans g3) k3
/-- C(..) -/
def tMakeU (C : Addr) (sp : Sp) (E : L2.St → XK) (t : TA) : TE := fun σ H Q => t σ H fun vs H1 => ∀ x dx, H1 x = none → H1 dx = none → dx ≠ x →
  sp (.ref x :: vs) (upd (upd H1 dx (.own x)) x (.ins C dx [])) (fun v H2 => v = .non ∧ Q (.ref x) H2) (E σ)
theorem made {F H : Hp} {ρ : List Addr} (k : Ok K F ρ H μ) {C x dx : Addr} (hx : H x = none) (hd : H dx = none) (ne : dx ≠ x) :
    ∃ F' ρ', Go F ρ H F' ρ' (upd (upd H dx (.own x)) x (.ins C dx [])) ∧ Ok K F' ρ' (upd (upd H dx (.own x)) x (.ins C dx [])) (μ ++ [.ins C []]) ∧ VW K F' ρ' (.ref x) (.p μ.length) := by
  obtain ⟨k1, g1⟩ := k.freeze (o := .own x) hd
  have hx1 : upd H dx (.own x) x = none := by rw [upd_ne (Ne.symm ne)]; exact hx
  obtain ⟨k2, g2, e2⟩ := k1.push (o := .ins C dx []) (c := .ins C []) hx1 ⟨k1.ex.un hx1, dx, [], upd_same, .nil⟩
  exact ⟨_, _, g1.trans g2, k2, x, e2, rfl⟩
theorem ev_make {C : Addr} {μ3 : Mu} (ha : EvA K ta δ μ ws μ1) (hn : ws.length + 1 = n) (h : Φ (.p μ1.length :: ws) (μ1 ++ [.ins C []]) (· = .ret (.d .none) μ3)) : Ev K (tMakeU C (spOf K n Φ) E ta) δ μ (.p μ1.length) μ3 := fun F ρ H σ Q k s q =>
  ha F ρ H σ _ k s fun vs F1 ρ1 H1 g1 k1 e1 => fun x dx hx hd ne => by
    obtain ⟨F2, ρ2, g2, k2, e2⟩ := made (C := C) k1 hx hd ne
    refine ⟨by rw [List.length_cons, pr_len e1]; exact hn, F2, ρ2, _, _, _, k2, .cons e2 (vws_go g2 e1), h, fun o ho => ?_⟩
    subst ho
    exact fun v F3 ρ3 H3 g3 k3 e3 => ⟨vw_n e3, q (.ref x) F3 ρ3 H3 ((g1.trans g2).trans g3) k3 (vw_go g3 e2)⟩
theorem evx_make {D : Addr} {μ3 : Mu} (ha : EvA K ta δ μ ws μ1) (hn : ws.length + 1 = n) (h : Φ (.p μ1.length :: ws) (μ1 ++ [.ins D []]) (· = .exc C (μ1 ++ μ3))) (hc : ClM μ1) : EvX K X (tMakeU D (spOf K n Φ) (WE X) ta) δ μ C μ1 := fun F ρ H σ Q k s q =>
  ha F ρ H σ _ k s fun vs F1 ρ1 H1 g1 k1 e1 => fun x dx hx hd ne => by
    obtain ⟨F2, ρ2, g2, k2, e2⟩ := made (C := D) k1 hx hd ne
    refine ⟨by rw [List.length_cons, pr_len e1]; exact hn, F2, ρ2, _, _, _, k2, .cons e2 (vws_go g2 e1), h, fun o ho => ?_⟩
    subst ho
    intro F3 ρ3 H3 g3 k3
    have hl : ρ1.length ≤ μ1.length := Nat.le_of_eq k1.len
    exact q F3 _ H3 (g1.trans ((g2.trans g3).cut hl)) (k3.cut hc)

/-! ### raising, trying -/
def tRaise (C : Value) (X : WX) : TS := fun _ σ H => X C none σ H
theorem st_raise (h : O (.exc C δ μ)) : St K X (tRaise C X) δ μ O := fun F ρ H σ D k s q => q _ h σ F ρ H Go.refl k s
def tTry (K : PySem.W.Frag) (c : Value) (tb : WX → TS) (ts : Addr → Value → Option Addr → TS) (X : WX) : TS := fun D σ H => tb (wOnly K c ts X D) D σ H
/-- what the body of a try must come to -/
def TryO (K : PySem.W.Frag) (X : WX) (c : Value) (ts : Addr → Value → Option Addr → TS) (O : SO → Prop) : SO → Prop
  | .exc C δ μ => ∃ b, PySem.W.exmOne K C c = some b ∧ (b = true → ∀ a, St K X (ts a C none) δ μ O) ∧ (b = false → O (.exc C δ μ))
  | o => O o
theorem st_try {c : Value} {tb : WX → TS} {ts : Addr → Value → Option Addr → TS} (h : ∀ X', St K X' (tb X') δ μ (TryO K X c ts O)) : St K X (tTry K c tb ts X) δ μ O := fun F ρ H σ D k s q =>
  h (wOnly K c ts X D) F ρ H σ D k s fun o ho => by
    cases o with
    | nx δ1 μ1 => exact q _ ho
    | brk δ1 μ1 => exact q _ ho
    | ct δ1 μ1 => exact q _ ho
    | ret w μ1 => exact q _ ho
    | exc C δ1 μ1 =>
      obtain ⟨b, e, h1, h2⟩ := ho
      exact fun σ' F' ρ' H' g' k' s' => ⟨b, e, fun hb a _ => h1 hb a F' ρ' H' σ' D k' s' fun o ho => (q o ho).go g', fun hb => q _ (h2 hb) σ' F' ρ' H' g' k' s'⟩
end

/-! ### a def -/
/-- the ends of a body, by the def's own -/
def Fin (m : Nat) (O : FO → Prop) : SO → Prop
  | .ret w μ => O (.ret w μ) ∨ ∃ μ0 junk, μ = μ0 ++ junk ∧ m ≤ μ0.length ∧ ClM μ0 ∧ ClW μ0.length w ∧ O (.ret w μ0)
  | .nx _ μ => O (.ret (.d .none) μ) ∨ ∃ μ0 junk, μ = μ0 ++ junk ∧ m ≤ μ0.length ∧ ClM μ0 ∧ O (.ret (.d .none) μ0)
  | .exc C _ μ => O (.exc C μ) ∨ ∃ μ0 junk, μ = μ0 ++ junk ∧ m ≤ μ0.length ∧ ClM μ0 ∧ O (.exc C μ0)
  | _ => False
theorem body_ok {K : PySem.W.Frag} {t : TS} {N ps : List Str} {Φ : Spec} {E : XK} {vs : List V} {H : Hp} {Q : VK}
    (hb : ∀ ws μ O, Φ ws μ O → ws.length = ps.length → ClM μ → St K (fun cls d _ H => E cls d H) t (ws.map some ++ List.replicate (N.length - ps.length) none) μ (Fin μ.length O)) (h : spOf K ps.length Φ vs H Q E) :
    t { nx := fun _ H' => Q .non H', rt := Q } (L2.start N vs) H := by
  obtain ⟨hl, F, ρ, μ, ws, O, k, pr, hΦ, hO⟩ := h
  have hw : ws.length = ps.length := (pr_len pr).symm.trans hl
  have s : Sl K F ρ (L2.start N vs) (ws.map some ++ List.replicate (N.length - ps.length) none) := by
    unfold L2.start
    rw [hl]
    refine pr_app ?_ (pr_rep (fun x e => nomatch e) _)
    clear hΦ hO hw hl
    induction pr with
    | nil => exact .nil
    | cons r t ih => exact .cons (fun x e => ⟨_, rfl, by cases e; exact r⟩) ih
  have hm : ρ.length ≤ μ.length := Nat.le_of_eq k.len
  refine hb ws μ O hΦ hw k.cl F ρ H _ _ k s fun o ho => ?_
  cases o with
  | nx δ1 μ1 =>
    intro σ' F' ρ' H' g' k' s'
    rcases ho with ho | ⟨μ0, junk, rfl, hl, hc, ho⟩
    · exact hO _ ho .non F' ρ' H' g' k' Dp.non
    · exact hO _ ho .non F' _ H' (g'.cut (Nat.le_trans hm hl)) (k'.cut hc) Dp.non
  | ret w μ1 =>
    intro v F' ρ' H' g' k' e'
    rcases ho with ho | ⟨μ0, junk, rfl, hl, hc, hw, ho⟩
    · exact hO _ ho v F' ρ' H' g' k' e'
    · exact hO _ ho v F' _ H' (g'.cut (Nat.le_trans hm hl)) (k'.cut hc) (vw_cut hw e')
  | exc C δ1 μ1 =>
    intro σ' F' ρ' H' g' k' s'
    rcases ho with ho | ⟨μ0, junk, rfl, hl, hc, ho⟩
    · exact hO _ ho F' ρ' H' g' k'
    · exact hO _ ho F' _ H' (g'.cut (Nat.le_trans hm hl)) (k'.cut hc)
  | brk δ1 μ1 => exact ho.elim
  | ct δ1 μ1 => exact ho.elim
section
variable {P : Program} {w : World} {K : PySem.W.Frag} {mg : Str → Option Value} {base : Heap}
/-- THE RULE for a def: its body as a term of rules, and what that term is worth on the plain store -/
theorem def_ok {x qual : Str} {st : Stmt} {f : Addr} {fd : FuncData} {N ps : List Str} {k n : Nat} {Φ : Spec} (F : Fun K x qual st f fd) (S : FnScope N ps (defScope st)) (hn : ps.length = n)
    (hbody : ∀ (cdv : Value) (A : Around) (outer : List Env) (s : Shared) (H : Hp) (E : XK), Room k (A.deeper (envOfC qual (defScope st) s.heap.objs.size f cdv)) →
      ∃ t, PSs (cxOf (L2.CX P w) P w K mg base N qual (defScope st) f cdv A outer s H E) (defBody st) t ∧
        ∀ ws μ O, Φ ws μ O → ws.length = n → ClM μ → St K (fun cls d _ H => E cls d H) t (ws.map some ++ List.replicate (N.length - n) none) μ (Fin μ.length O)) :
    FnOk P w K mg base (L2.CX P w) (k + 1) f fd ps (spOf K n Φ) := by
  subst hn
  refine F.okX S (fun vs H Q E h => h.1) fun cdv A outer s H vs Q E hr h => ?_
  obtain ⟨t, ht, hb⟩ := hbody cdv A outer s H E hr
  exact ⟨t, ht, body_ok hb h⟩
end
/-! ### rules -/
section
variable {X : Cx} {CX : CXT} {k : Nat} {f C : Addr} {fd : FuncData} {ps : List Str} {sp : Sp} {E : L2.St → XK} {x m : Str} {p pos apos : Pos} {e o : Expr} {es : List Expr} {ta : TE} {t : TA} {W' : WX}
theorem pe_callU (F : FnOk X.prog X.w X.K X.mg X.base (L2.CX X.prog X.w) k f fd ps sp) (hr : Room k X.A) (hg : Gl X x) (hm : X.mg x = some (.ref f)) (hk : PySem.W.keepIn X.K (.ref f) = true) (hb : Binds X.K fd ps []) (tk : Takes X W')
    (ha : PA X (e :: es) t) (hdb : (x == ("__debug__" : Str)) = false := by decide) (he : starEach (e :: es) X.env = (false, eval e X.env) :: starEach es X.env := by rfl) (hpl : (backTo pos (starEach es X.env)).any (·.1) = false := by rfl) :
    PE X (.Call (.Name x p) (e :: es) [] pos) (tCallS sp (WE W') t) := pe_callS F hr hg hm hk hb (fun σ => passAt tk σ) ha hdb he hpl
theorem pe_callU0 (F : FnOk X.prog X.w X.K X.mg X.base (L2.CX X.prog X.w) k f fd ps sp) (hr : Room k X.A) (hg : Gl X x) (hm : X.mg x = some (.ref f)) (hk : PySem.W.keepIn X.K (.ref f) = true) (hb : Binds X.K fd ps []) (tk : Takes X W')
    (hdb : (x == ("__debug__" : Str)) = false := by decide) : PE X (.Call (.Name x p) [] [] pos) (tCallS sp (WE W') tNil) := by
  refine ⟨fun pins s σ H Q I h => ?_⟩
  refine wpAny_Call_Name_kw (ld_glob I hg hm ?_ hdb)
  exact PySem.W.callWith_K0 I.kIn hk (run_fnS (us := []) F hr hb (passAt tk σ) I .nil h)
theorem pe_methU {pl : Sem Bool} (he : PE X o ta) (c : Cls X.K C) (hm : Meth X.K C m f) (F : FnOk X.prog X.w X.K X.mg X.base (L2.CX X.prog X.w) k f fd ps sp) (hr : Room k X.A) (hb : Binds X.K fd ps []) (tk : Takes X W') (ha : PA X (e :: es) t)
    (hst : starEach (e :: es) X.env = (false, eval e X.env) :: starEach es X.env := by rfl) (hpl : (backTo pos (starEach es X.env)).any (·.1) = false := by rfl)
    (ht : eval (.Call (.Attribute o m apos) (e :: es) [] pos) X.env = (do
      let ov ← eval o X.env
      standAt apos.atName
      let (f, first) ← holding [ov] (getMethod ov m pl)
      callWith pos f first (backTo pos (starEach (e :: es) X.env)) (backToKw pos (keywordEach [] X.env))) := by rfl) :
    PE X (.Call (.Attribute o m apos) (e :: es) [] pos) (tMethU C m sp (WE W') ta t) := by
  refine ⟨fun pins s σ H Q I h => ?_⟩
  refine PySem.W.methodCall_KW (pl := pl) (thn (he.run pins s σ H _ I h) fun u s1 ⟨x, H1, I1, rx, a, dx, fs, ex, ea, l, q⟩ => ?_) ht
  subst ex
  obtain rfl : u = Value.ref a := rx
  refine getmeth_ok I1 ea c hm l ?_
  refine PySem.W.callWith_K (first := [.ref a]) (h₀ := X.base) I.ok.mod.kin hm.kp (thn (ha.run pos pins s1 σ H1 _ I1 q) fun us s2 ⟨vs, H2, I2, r, q2⟩ => ⟨I2.kIn, ?_⟩) hst hpl
  exact run_fnS (us := .ref a :: us) (vs := .ref a :: vs) F hr hb (passAt tk σ) I2 (.cons rfl r) q2
theorem pe_methU0 {pl : Sem Bool} (he : PE X o ta) (c : Cls X.K C) (hm : Meth X.K C m f) (F : FnOk X.prog X.w X.K X.mg X.base (L2.CX X.prog X.w) k f fd ps sp) (hr : Room k X.A) (hb : Binds X.K fd ps []) (tk : Takes X W')
    (ht : eval (.Call (.Attribute o m apos) [] [] pos) X.env = (do
      let ov ← eval o X.env
      standAt apos.atName
      let (f, first) ← holding [ov] (getMethod ov m pl)
      callWith pos f first (backTo pos (starEach [] X.env)) (backToKw pos (keywordEach [] X.env))) := by rfl) :
    PE X (.Call (.Attribute o m apos) [] [] pos) (tMethU C m sp (WE W') ta tNil) := by
  refine ⟨fun pins s σ H Q I h => ?_⟩
  refine PySem.W.methodCall_KW (pl := pl) (thn (he.run pins s σ H _ I h) fun u s1 ⟨x, H1, I1, rx, a, dx, fs, ex, ea, l, q⟩ => ?_) ht
  subst ex
  obtain rfl : u = Value.ref a := rx
  refine getmeth_ok I1 ea c hm l ?_
  exact PySem.W.callWith_K0 (first := [.ref a]) I1.kIn hm.kp (run_fnS (us := [.ref a]) (vs := [.ref a]) F hr hb (passAt tk σ) I1 (.cons rfl .nil) q)
/-- what leaves a call leaves the caller at its slots -/
theorem run_makeU {pins : List (Addr × Obj)} {σ : L2.St} {H : Hp} {s : Shared} {Q : VK} {us : List Value} {vs : List V} (M : Mk X.K C f) (F : FnOk X.prog X.w X.K X.mg X.base (L2.CX X.prog X.w) k f fd ps sp) (hr : Room (k + 1) X.A) (hb : Binds X.K fd ps [])
    (tk : Takes X W') (I : Inv X pins σ H s) (r : Vals vs us)
    (h : ∀ x dx, H x = none → H dx = none → dx ≠ x → sp (.ref x :: vs) (upd (upd H dx (.own x)) x (.ins C dx [])) (fun v H2 => v = .non ∧ Q (.ref x) H2) (WE W' σ)) :
    wpAny (model X.prog X.w) X.A (call (.ref C) us) (EP X pins σ Q) X.xe s := by
  have hq := h (s.heap.objs.size + 1) s.heap.objs.size (I.hok.fresh (Nat.le_succ _)) (I.hok.fresh (Nat.le_refl _)) (Nat.ne_of_lt (Nat.lt_succ_self _))
  have I2 := Inv.made (C := C) I
  have r2 : Vals (V.ref (s.heap.objs.size + 1) :: vs) (Value.ref (s.heap.objs.size + 1) :: us) := .cons rfl r
  have hl : (Value.ref (s.heap.objs.size + 1) :: us).length = ps.length := by
    rw [← r2.length]
    exact F.len _ _ _ _ hq
  have b := hb _ (Value.ref (s.heap.objs.size + 1) :: us) I2.kIn (by rw [List.append_nil]; exact hl)
  rw [List.append_nil] at b
  refine wpAny_call (make_map (f := f) I.kIn M.makes M.init (beq_iff_eq.mp M.fn) (codeAny_mono (F.run _ X.stack _ _ ⟨Value.ref (s.heap.objs.size + 1) :: us, []⟩ (Value.ref (s.heap.objs.size + 1) :: us) _ _ (WE W' σ) (hr.make C us [])
    (I2.env0.make C us []) b r2 hq) fun r s' hq' => ?_))
  cases r with
  | error e => exact passAt tk σ pins _ _ e s' I2 hq'
  | ok fl =>
    cases fl with
    | ret u =>
      obtain ⟨v, H', I3, rv, ev, q3⟩ := I2.after hq'
      subst ev
      exact ⟨rv, ⟨V.ref (s.heap.objs.size + 1), H', I3, rfl, q3⟩⟩
    | next => exact False.elim hq'
    | brk => exact False.elim hq'
    | cont => exact False.elim hq'
theorem pe_makeU (M : Mk X.K C f) (F : FnOk X.prog X.w X.K X.mg X.base (L2.CX X.prog X.w) k f fd ps sp) (hr : Room (k + 1) X.A) (hg : Gl X x) (hm : X.mg x = some (.ref C)) (hb : Binds X.K fd ps []) (tk : Takes X W')
    (ha : PA X (e :: es) t) (hdb : (x == ("__debug__" : Str)) = false := by decide) (he : starEach (e :: es) X.env = (false, eval e X.env) :: starEach es X.env := by rfl) (hpl : (backTo pos (starEach es X.env)).any (·.1) = false := by rfl) :
    PE X (.Call (.Name x p) (e :: es) [] pos) (tMakeU C sp (WE W') t) := by
  refine ⟨fun pins s σ H Q I h => ?_⟩
  refine wpAny_Call_Name_kw (ld_glob I hg hm ?_ hdb)
  refine PySem.W.callWith_K (h₀ := X.base) I.ok.mod.kin M.kp (thn (ha.run pos pins s σ H _ I h) fun us s1 ⟨vs, H1, I1, r, q⟩ => ⟨I1.kIn, ?_⟩) he hpl
  exact run_makeU M F hr hb tk I1 r q
theorem pe_makeU0 (M : Mk X.K C f) (F : FnOk X.prog X.w X.K X.mg X.base (L2.CX X.prog X.w) k f fd ps sp) (hr : Room (k + 1) X.A) (hg : Gl X x) (hm : X.mg x = some (.ref C)) (hb : Binds X.K fd ps []) (tk : Takes X W')
    (hdb : (x == ("__debug__" : Str)) = false := by decide) : PE X (.Call (.Name x p) [] [] pos) (tMakeU C sp (WE W') tNil) := by
  refine ⟨fun pins s σ H Q I h => ?_⟩
  refine wpAny_Call_Name_kw (ld_glob I hg hm ?_ hdb)
  exact PySem.W.callWith_K0 I.kIn M.kp (run_makeU (us := []) M F hr hb tk I .nil h)
/-- raise X('..') -/
theorem ps_raiseU {bmB : List Value} {B newId initId : String} {mm : Str} {j : Nat} {p2 pos2 : Pos} (hc : X.calm = true) (tk : Takes X W') (F : ExcBaseFacts B newId initId bmB) (q : PySem.W.excIn X.K C bmB newId = true) (gC : X.mg x = some (.ref C)) (kC : PySem.W.keepIn X.K (.ref C) = true) (r : Raises X (.ref C)) (hg : Gl X x)
    (hdb : (x == ("__debug__" : Str)) = false := by decide) : PS X (.Raise (some (.Call (.Name x p) [.Constant (.str mm) j p2] [] pos)) none pos2) (tRaise (.ref C) W') := ps_raise hc tk (pmk_own F q gC kC r hg hdb)
end
end DL

set_option Elab.async false
set_option linter.all false
set_option maxRecDepth 100000
set_option maxHeartbeats 2000000
namespace DL
open PySem PySem.Spec PyProof.Rows L2 RZ
variable [Wd]
def r2or (r s : R2) : R2 := fun x y H Q => r x y H Q ∨ s x y H Q
theorem op_or2 {X : Cx} {f : Value → Value → Sem Value} {r s : R2} (a : OpR X f r) (b : OpR X f s) : OpR X f (r2or r s) := fun pins s σ H x y v u Q I rx ry h => by
  rcases h with h | h
  · exact a pins s σ H x y v u Q I rx ry h
  · exact b pins s σ H x y v u Q I rx ry h
def rStrCat : R2 := fun x y H Q => ∃ i j : Str, x = .str i ∧ y = .str j ∧ i.length + j.length ≤ sizeLine ∧ Q (.str (i ++ j)) H
def rAddI : R2 := rI0 fun i j => .int (i + j)
def rSubI : R2 := rI0 fun i j => .int (i - j)
def rMulI : R2 := rI CMul fun i j => .int (i * j)
def rModP : R2 := rI (fun _ j => 0 < j) fun i j => .int (i % j)
def rDivP : R2 := rI CDiv fun i j => .int (i / j)
def rPowI : R2 := rI CPow fun i j => .int (i ^ j.toNat)
def rLtI : R2 := rI0 fun i j => .bl (decide (i < j))
def rLeI : R2 := rI0 fun i j => .bl (decide (i ≤ j))
def rGtI : R2 := rI0 fun i j => .bl (decide (j < i))
def rGeI : R2 := rI0 fun i j => .bl (decide (j ≤ i))
/-- + : ints, tuples, lists -/
def rAddU (K : PySem.W.Frag) : R2 := r2or rAddI (r2or (rCatA K) rCat)
/-- * : ints, a list, a tuple -/
def rMulU (K : PySem.W.Frag) : R2 := r2or rMulI (r2or rRep (rRepT K))
/-- == : scalars, data of any depth -/
def rEqA (K : PySem.W.Frag) : R2 := r2or rEq (rEqD K)
def rNeA (K : PySem.W.Frag) : R2 := r2or rNe (rNeD K)
section
variable {X : Cx}
theorem op_addU : OpR X (binaryOp .Add) (rAddU X.K) := op_or2 op_add (op_or2 op_catA op_cat)
theorem op_subU : OpR X (binaryOp .Sub) rSubI := op_sub
theorem op_mulU : OpR X (binaryOp .Mult) (rMulU X.K) := op_or2 op_mul (op_or2 op_rep op_repT)
theorem op_modU : OpR X (binaryOp .Mod) rModP := op_mod
theorem op_divU : OpR X (binaryOp .FloorDiv) rDivP := op_fdiv
theorem op_powU : OpR X (binaryOp .Pow) rPowI := op_pow
theorem op_ltU : OpR X (compareOp .Lt) rLtI := op_lt
theorem op_leU : OpR X (compareOp .LtE) rLeI := op_le
theorem op_gtU : OpR X (compareOp .Gt) rGtI := op_gt
theorem op_geU : OpR X (compareOp .GtE) rGeI := op_ge
theorem op_eqU (hu : X.A.units + 64 < cLine) : OpR X (compareOp .Eq) (rEqA X.K) := op_or2 op_eq (op_eqD hu)
theorem op_neU (hu : X.A.units + 64 < cLine) : OpR X (compareOp .NotEq) (rNeA X.K) := op_or2 op_ne (op_neD hu)
theorem op_isU : OpR X (compareOp .Is) rIsB := op_isBl
theorem op_isnU : OpR X (compareOp .IsNot) rNotB := op_notBl
end
section
variable {K : PySem.W.Frag} {δ : Dl} {μ μ1 μ2 : Mu} {x y z : W} {r s : R2} {te : TE} {w : W} {ta : TA}
theorem rv_l (h : RV K r x y μ z μ1) : RV K (r2or r s) x y μ z μ1 := fun F ρ H v u Q k a b q => .inl (h F ρ H v u Q k a b q)
theorem rv_r (h : RV K s x y μ z μ1) : RV K (r2or r s) x y μ z μ1 := fun F ρ H v u Q k a b q => .inr (h F ρ H v u Q k a b q)
theorem rv_addI {i j : Int} : RV K (rAddU K) (.i i) (.i j) μ (.i (i + j)) μ := rv_l rv_I0
theorem rv_addT {xs ys : List PyData} (hz : xs.length + ys.length ≤ sizeLine) : RV K (rAddU K) (.d (.tuple xs)) (.d (.tuple ys)) μ (.d (.tuple (xs ++ ys))) μ := rv_r (rv_l (rv_catT hz))
theorem rv_subI {i j : Int} : RV K rSubI (.i i) (.i j) μ (.i (i - j)) μ := rv_I0
theorem rv_mulI {i j : Int} (h : CMul i j) : RV K (rMulU K) (.i i) (.i j) μ (.i (i * j)) μ := rv_l (rv_I h)
theorem rv_mulL {m : Nat} {xs : List W} {n : Int} (e : μ[m]? = some (.lst xs)) (h1 : -(2 ^ 63) ≤ n) (h2 : n < 2 ^ 63) (h3 : xs.length * n.toNat ≤ sizeLine) : RV K (rMulU K) (.p m) (.i n) μ (.p μ.length) (μ ++ [.lst (List.replicate n.toNat xs).flatten]) := rv_r (rv_l (rv_repP e h1 h2 h3))
theorem rv_mulT {xs : List PyData} {n : Int} (h0 : xs ≠ []) (h1 : 2 ≤ n) (h2 : n ≤ 1000) (h3 : xs.length ≤ 1000) : RV K (rMulU K) (.d (.tuple xs)) (.i n) μ (.d (.tuple (List.replicate n.toNat xs).flatten)) μ := rv_r (rv_r (rv_repT h0 h1 h2 h3))
theorem rv_modI {i j : Int} (h : 0 < j) : RV K rModP (.i i) (.i j) μ (.i (i % j)) μ := rv_I h
theorem rv_divI {i j : Int} (h : CDiv i j) : RV K rDivP (.i i) (.i j) μ (.i (i / j)) μ := rv_I h
theorem rv_powI {i j : Int} (h : CPow i j) : RV K rPowI (.i i) (.i j) μ (.i (i ^ j.toNat)) μ := rv_I h
theorem rv_ltI {i j : Int} : RV K rLtI (.i i) (.i j) μ (.b (decide (i < j))) μ := rv_B0
theorem rv_leI {i j : Int} : RV K rLeI (.i i) (.i j) μ (.b (decide (i ≤ j))) μ := rv_B0
theorem rv_gtI {i j : Int} : RV K rGtI (.i i) (.i j) μ (.b (decide (j < i))) μ := rv_B0
theorem rv_geI {i j : Int} : RV K rGeI (.i i) (.i j) μ (.b (decide (j ≤ i))) μ := rv_B0
theorem rv_eqI {i j : Int} : RV K (rEqA K) (.i i) (.i j) μ (.b (decide (i = j))) μ := by
  have h : RV K rEq (.d (.int i)) (.d (.int j)) μ (.b (decide (V.int i = V.int j))) μ := rv_eq rfl rfl rfl
  rw [dec_int, Bool.beq_eq_decide_eq] at h
  exact rv_l h
theorem rv_neI {i j : Int} : RV K (rNeA K) (.i i) (.i j) μ (.b (!decide (i = j))) μ := by
  have h : RV K rNe (.d (.int i)) (.d (.int j)) μ (.b (!decide (V.int i = V.int j))) μ := rv_ne rfl rfl rfl
  rw [dec_int, Bool.beq_eq_decide_eq] at h
  exact rv_l h
theorem rv_eqX {a b : PyData} (s1 : Sees μ x a) (s2 : Sees μ y b) (h1 : SeqAt.shaped a = true) (h2 : SeqAt.shaped b = true) : RV K (rEqA K) x y μ (.b (PyData.eqv a b)) μ := rv_r (rv_eqS s1 s2 h1 h2)
theorem rv_neX {a b : PyData} (s1 : Sees μ x a) (s2 : Sees μ y b) (h1 : SeqAt.shaped a = true) (h2 : SeqAt.shaped b = true) : RV K (rNeA K) x y μ (.b (!PyData.eqv a b)) μ := rv_r (rv_neS s1 s2 h1 h2)
theorem ev_notT {b : Bool} (h : Ev K te δ μ w μ1) (t : Tru μ1 w b) : Ev K (tNotT K te) δ μ (.b (!b)) μ1 := fun F ρ H σ Q k s q => by
  have h2 := et_tr h t F ρ H σ (fun c H' => Q (.bl (!c)) H') k s fun F' ρ' H' g' k' => q _ F' ρ' H' g' k' (Dp.bl _)
  exact h2
/-! ### zip -/
/-- both lists (or tuples) at once; a new pair each turn -/
theorem ei_zip {a b : W} {xs ys : List PyData} (e : EvA K ta δ μ [a, b] μ1) (h1 : Its μ1 a (xs.map .d)) (h2 : Its μ1 b (ys.map .d)) :
    EvI K (iZipA K ta) δ μ ((xs.zip ys).map fun p => .d (.tuple [p.1, p.2])) (fun μ => KpOf a (xs.map .d) μ ∧ KpOf b (ys.map .d) μ) μ1 := fun F ρ H σ R k s q =>
  e F ρ H σ _ k s fun vs F1 ρ1 H1 g1 k1 e1 => by
    cases e1 with
    | cons ea r =>
      cases r with
      | cons eb r =>
        have e0 := pr_nilR r
        subst e0
        obtain ⟨p, us, rfl, hp, pr⟩ := its_get k1 ea h1
        obtain ⟨p2, us2, rfl, hp2, pr2⟩ := its_get k1 eb h2
        refine ⟨p, p2, us, us2, rfl, .inl ⟨hp, hp2, q (Itz K p p2) F1 ρ1 H1 g1 k1 ⟨fun i wi F2 ρ2 H2 μ2 hi g2 k2 kp => ?_, fun F2 ρ2 H2 μ2 g2 k2 kp => ?_⟩⟩⟩
        all_goals (
          obtain ⟨c1, vs1, ec1, hs1, pq1⟩ := its_get k2 (vw_go g2 ea) (its_kp h1 kp.1)
          obtain ⟨c2, vs2, ec2, hs2, pq2⟩ := its_get k2 (vw_go g2 eb) (its_kp h2 kp.2)
          cases ec1
          cases ec2
          have l1 : vs1.length = xs.length := by rw [pr_len pq1, List.length_map]
          have l2 : vs2.length = ys.length := by rw [pr_len pq2, List.length_map])
        · rw [List.getElem?_map] at hi
          cases hz : (xs.zip ys)[i]? with
          | none =>
            rw [hz] at hi
            cases hi
          | some pp =>
            rw [hz] at hi
            cases hi
            obtain ⟨x', y'⟩ := pp
            obtain ⟨z1, z2⟩ := List.getElem?_zip_eq_some.mp hz
            obtain ⟨u1, hu1, ru1⟩ := pr_get pq1 (show (xs.map W.d)[i]? = some (.d x') by rw [List.getElem?_map, z1]; rfl)
            obtain ⟨u2, hu2, ru2⟩ := pr_get pq2 (show (ys.map W.d)[i]? = some (.d y') by rw [List.getElem?_map, z2]; rfl)
            refine ⟨⟨vs1, vs2, u1, u2, hs1, hs2, hu1, hu2⟩, fun x H3 y => ?_⟩
            obtain ⟨T, a1, a2, hv, hT, hH, hx1, hx2⟩ := y
            have q1 := hx1 vs1 hs1
            have q2 := hx2 vs2 hs2
            rw [hu1] at q1
            rw [hu2] at q2
            cases q1
            cases q2
            subst hv
            subst hH
            exact ok_tup (Q := fun v H3 => ∃ F3 ρ3, Go F2 ρ2 H2 F3 ρ3 H3 ∧ Ok K F3 ρ3 H3 μ2 ∧ VW K F3 ρ3 v (.d (.tuple [x', y']))) k2 (.cons (show Dp K F2 u1 x' from ru1) (.cons (show Dp K F2 u2 y' from ru2) .nil)) hT fun v F3 ρ3 H3 g3 k3 e3 => ⟨F3, ρ3, g3, k3, e3⟩
        · exact ⟨vs1, vs2, hs1, hs2, by rw [List.length_map, List.length_zip]; omega⟩
end
end DL

set_option Elab.async false
set_option linter.all false
set_option maxRecDepth 100000
set_option maxHeartbeats 2000000
namespace DL
open PySem PySem.Spec PyProof.Rows L2
variable [Wd]
section
variable {X : Cx} {x : Str} {c : Value} {body suite : List Stmt} {b₀ : Stmt} {np pos pos' : Pos} {tb : WX → TS} {ts : Addr → Value → Option Addr → TS} {Wout : WX}
theorem ps_tryU (hs : X.stack = X.env :: X.outer) (hf : X.env.frame = some X.env.locals) (hc : Names X x c) (tk : Takes X Wout)
    (hb : ∀ (W : WX) (pn : List (Addr × Obj)) (xe : Value → Shared → Prop), Takes (X.tr pn xe) W → PassesOwn (model X.prog X.w) X.A X.env xe → PSs (X.tr pn xe) body (tb W))
    (hsu : ∀ (a : Addr) (oe : Obj) (cls : Value) (d : Option Addr) (pn : List (Addr × Obj)), Zc cls d oe → (∃ vs, oe.data = .fields vs) → PSs (X.suite a ((a, oe) :: pn)) (b₀ :: suite) (ts a cls d)) :
    PS X (.Try body [.ExceptHandler (some (.Name x np)) none (b₀ :: suite) pos'] [] [] pos) (tTry X.K c tb ts Wout) := ps_try_only hs hf hc tk hb hsu
end
omit [Wd] in
/-- what the law's script is -/
def scr (ns : List Int) : PyData := .list (ns.map .int)
omit [Wd] in
def spLaw (K : PySem.W.Frag) : Sp := fun vs H Q _ => ∃ (a : Addr) (ns : List Int), vs = [.ref a] ∧ SqL K H a (ns.map V.int) ∧ ns.length ≤ 63 ∧ ∀ H', Q (.bl true) H'
omit [Wd] in
theorem dp_ints {K : PySem.W.Frag} {F : Hp} : ∀ ns : List Int, DpAll K F (ns.map V.int) (ns.map .int)
  | [] => .nil
  | _ :: ns => .cons (.int _) (dp_ints ns)
/-- the ends of the law -/
def LawEnd : SO → Prop
  | .ret w _ => w = .b true
  | _ => False
theorem law_body {K : PySem.W.Frag} {t : TS} {N : List Str} {X : WX} {vs : List V} {H : Hp} {Q : VK} {E : XK} (hN : N.length = n + 1)
    (hb : ∀ ns : List Int, ns.length ≤ 63 → St K X t (some (.d (scr ns)) :: List.replicate n none) [] LawEnd) (h : spLaw K vs H Q E) : t { nx := fun _ H' => Q .non H', rt := Q } (L2.start N vs) H := by
  obtain ⟨a, ns, rfl, hs, hl, hQ⟩ := h
  have k : Ok K H [] H [] := ⟨Ex.refl H, rfl, List.nodup_nil, (fun a h => nomatch h), (fun n a c h => by simp at h)⟩
  have s : Sl K H [] (L2.start N [.ref a]) (some (.d (scr ns)) :: List.replicate n none) := by
    unfold L2.start
    rw [hN]
    exact .cons (fun x e => ⟨_, rfl, by cases e; exact Dp.lst hs (dp_ints ns)⟩) (pr_rep (fun x e => nomatch e) n)
  refine hb ns hl H [] H _ _ k s fun o ho => ?_
  cases o with
  | ret w μ =>
    intro v F' ρ' H' g' k' e'
    have e : w = .b true := ho
    subst e
    rw [vw_b e']
    exact hQ H'
  | nx δ μ => exact ho.elim
  | brk δ μ => exact ho.elim
  | ct δ μ => exact ho.elim
  | exc C δ μ => exact ho.elim
omit [Wd] in
/-- what «except C2» says of an error of the class at C1 -/
theorem exm_of {K : PySem.W.Frag} {C1 C2 : Addr} {b : Bool} (h1 : PySem.W.subIn K (.ref C2) (.type "BaseException") = some true) (h2 : PySem.W.isClsIn K C2 = true) (h3 : PySem.W.typeIn K (.ref C2) = some (.type "type")) (h4 : PySem.W.subIn K (.ref C1) (.ref C2) = some b) :
    PySem.W.exmOne K (.ref C1) (.ref C2) = some b := by
  have e1 : (PySem.W.subIn K (.ref C2) (.type "BaseException") == some true) = true := by rw [h1] <;> rfl
  have e2 : ((PySem.W.clsIn K C2).isSome && PySem.W.typeIn K (.ref C2) == some (.type "type")) = true := by
    have h2' : (PySem.W.clsIn K C2).isSome = true := h2
    rw [h2', h3] <;> rfl
  show (if (PySem.W.subIn K (.ref C2) (.type "BaseException") == some true) = true then (if ((PySem.W.clsIn K C2).isSome && PySem.W.typeIn K (.ref C2) == some (.type "type")) = true then PySem.W.subIn K (.ref C1) (.ref C2) else none) else none) = some b
  rw [if_pos e1, if_pos e2]
  exact h4
omit [Wd] in
/-- a tuple of the module -/
theorem con_tup {K : PySem.W.Frag} {c : Addr} {dd : Option Addr} {it : Array Value} {n : Nat} {sl : Array (Option Value)} {xs : List PyData} (l : K.lookup c = some ⟨.type "tuple", dd, .seq it n, sl⟩)
    (h : it.size ≤ sizeLine ∧ ∃ vs, Vals vs it.toList ∧ ∀ F, DpAll K F vs xs) : ∀ F, Dp K F (.ref c) (.tuple xs) := fun F => by
  obtain ⟨hz, vs, hv, hd⟩ := h
  exact .tup (.inr ⟨_, it, n, l, rfl, rfl, hz, hv⟩) (hd F)
omit [Wd] in
/-- the law's walk: from the facts of the top -/
theorem walk {l : PySem.W.OpenLaw} {q : Program} {loose : List Str} {XP : (Str → Option Value) → Heap → Prop} {YP : World → Heap → Prop} {d : DefRec} {K : Params → PySem.W.Frag} {k : Nat} (hr : Room k callerA) (hn : l.most = some 63) (hdf : d.params.defaults = [])
    (hY : ∀ (w : World) (h : Heap), YP w h → (K w.params).In h)
    (F : ∀ (w : World) (mg : Str → Option Value) (fa : Addr) (h : Heap), (K w.params).In h → h.Ns mainGlobals mg → mg d.name = some (.ref fa) →
      ∃ fd : FuncData, (∀ (s : Shared) (u : Value), BindsTo s fd ⟨[u], []⟩ [("script", u)]) ∧ ∀ base : Heap, (K w.params).In base → base.Ns mainGlobals mg → FnOk l.prog w (K w.params) mg base CX0 k fa fd ["script"] (spLaw (K w.params))) :
    PySem.W.WalkO q loose XP YP l.row.toRowW d [] (fun f vs => PySem.call f vs) := by
  exact L2.walk_of (n := 63) (k := k) (x := "script") (CX := fun _ => CX0) (sp := fun w => spLaw (K w.params)) hn (by decide) hdf hr hY F (fun _ _ a ns hl _ hS => ⟨a, ns, rfl, hS, hl, fun _ => rfl⟩) fun _ _ _ _ _ z => z
end DL

set_option Elab.async false
set_option linter.all false
set_option maxRecDepth 100000
set_option maxHeartbeats 2000000
namespace DL
open PySem PySem.Spec PyProof.Rows L2
variable [Wd]
def iSeq (K : PySem.W.Frag) (tl : TE) : TI := fun σ H R => tl σ H fun x H1 => ∃ a, x = .ref a ∧ (((∃ xs, SqL K H1 a xs) ∧ R (Itl K a) H1) ∨ ((∃ xs, SqT K H1 a xs) ∧ R (Itt K a) H1))
theorem pi_seqU {X : Cx} {tg l : Expr} {tl : TE} (hl : PE X l tl) : PI X tg l (iSeq X.K tl) := by
  refine ⟨fun pins s σ H R I h => ?_⟩
  refine thn (hl.run pins s σ H _ I h) fun v s1 ⟨x, H1, I1, r1, q1⟩ => ?_
  obtain ⟨a, e, ⟨⟨xs, hq⟩, q⟩ | ⟨⟨xs, hq⟩, q⟩⟩ := q1
  · subst e
    cases r1
    obtain ⟨its, rv, p, hz⟩ := I1.list hq
    refine wpAny_pyIter_list p.isList ?_
    refine ⟨s1.heap.objs.size, [s1.heap.objs.size], _, _, H1, rfl, I1.kept (t' := s1.toks) fun b o e => Heap.get?_push_of_some _ e, turn_list a _, ⟨_, Heap.get?_push_size _ rfl, rfl, rfl⟩, fun b hb => ?_, q⟩
    have e : b = s1.heap.objs.size := by simpa using hb
    subst e
    exact I1.fpOk (Nat.le_refl _) (I1.hok.fresh (Nat.le_refl _))
  · subst e
    cases r1
    obtain ⟨its, rv, p, hz⟩ := I1.tuple hq
    refine wpAny_pyIter_tuple (show s1.heap.IsTuple a its.toArray from p) ?_
    refine ⟨s1.heap.objs.size, [s1.heap.objs.size], _, _, H1, rfl, I1.kept (t' := s1.toks) fun b o e => Heap.get?_push_of_some _ e, turn_tuple a _, ⟨_, Heap.get?_push_size _ rfl, rfl, rfl⟩, fun b hb => ?_, q⟩
    have e : b = s1.heap.objs.size := by simpa using hb
    subst e
    exact I1.fpOk (Nat.le_refl _) (I1.hok.fresh (Nat.le_refl _))
section
variable {K : PySem.W.Frag} {δ : Dl} {μ μ1 : Mu} {te : TE} {w : W} {ws : List W}
theorem ei_seqL (e : Ev K te δ μ w μ1) (h : Its μ1 w ws) : EvI K (iSeq K te) δ μ ws (KpOf w ws) μ1 := fun F ρ H σ R k s q =>
  ei_list e h F ρ H σ R k s q |> fun z => by
    refine e F ρ H σ _ k s fun v F1 ρ1 H1 g1 k1 e1 => ?_
    obtain ⟨a, vs, rfl, hs, pr⟩ := its_get k1 e1 h
    refine ⟨a, rfl, .inl ⟨⟨vs, hs⟩, q (Itl K a) F1 ρ1 H1 g1 k1 ⟨fun i wi F2 ρ2 H2 μ2 hi g2 k2 kp => ?_, fun F2 ρ2 H2 μ2 g2 k2 kp => ?_⟩⟩⟩
    · obtain ⟨b, us, eb, hs2, pr2⟩ := its_get k2 (vw_go g2 e1) (its_kp h kp)
      cases eb
      obtain ⟨u, hu, ru⟩ := pr_get pr2 hi
      exact ⟨⟨us, u, hs2, hu⟩, fun x H3 y => ⟨F2, ρ2, by rw [y.1]; exact Go.refl, by rw [y.1]; exact k2, by
        have z := y.2 us hs2
        rw [hu] at z
        cases z
        exact ru⟩⟩
    · obtain ⟨b, us, eb, hs2, pr2⟩ := its_get k2 (vw_go g2 e1) (its_kp h kp)
      cases eb
      exact ⟨us, hs2, by rw [pr_len pr2]; exact Nat.le_refl _⟩
theorem ei_seqT {xs : List PyData} (e : Ev K te δ μ (.d (.tuple xs)) μ1) : EvI K (iSeq K te) δ μ (xs.map .d) (fun _ => True) μ1 := fun F ρ H σ R k s q =>
  e F ρ H σ _ k s fun v F1 ρ1 H1 g1 k1 e1 => by
    obtain ⟨a, vs, rfl, hs, pr⟩ := vw_t e1
    refine ⟨a, rfl, .inr ⟨⟨vs, ex_t k1.ex hs⟩, q (Itt K a) F1 ρ1 H1 g1 k1 ⟨fun i wi F2 ρ2 H2 μ2 hi g2 k2 kp => ?_, fun F2 ρ2 H2 μ2 g2 k2 kp => ?_⟩⟩⟩
    · obtain ⟨u, hu, ru⟩ := pr_get (pr_dmap (ρ := ρ1) pr) hi
      have hs2 := ex_t k2.ex (ex_t g2.ex hs)
      exact ⟨⟨vs, u, hs2, hu⟩, fun x H3 y => ⟨F2, ρ2, by rw [y.1]; exact Go.refl, by rw [y.1]; exact k2, by
        have z := y.2 vs hs2
        rw [hu] at z
        cases z
        exact vw_go g2 ru⟩⟩
    · exact ⟨vs, ex_t k2.ex (ex_t g2.ex hs), by rw [pr_len pr, List.length_map]; exact Nat.le_refl _⟩
/-- .. either, where the store need not be looked at -/
theorem ei_seqD {x : PyData} {xs : List PyData} (e : Ev K te δ μ (.d x) μ1) (h : x = .list xs ∨ x = .tuple xs) : EvI K (iSeq K te) δ μ (xs.map .d) (fun _ => True) μ1 := by
  rcases h with rfl | rfl
  · exact ei_seqL e (.d xs)
  · exact ei_seqT e
end
theorem cxOf_K {CX : CXT} {P : Program} {w : World} {K : PySem.W.Frag} {mg : Str → Option Value} {base : Heap} {N : List Str} {qual : Str} {scope : Scope} {f : Addr} {cd : Value} {A : Around} {outer : List Env} {s : Shared} {H : Hp} {E : XK} :
    (cxOf CX P w K mg base N qual scope f cd A outer s H E).K = K := rfl
/-! what isinstance says of data -/
def isaInt : PyData → Bool
  | .bool _ => true
  | .int _ => true
  | _ => false
theorem kit_int : ∀ x : PyData, kitB (tyD x) "int" = some (isaInt x)
  | .none => (by decide +kernel : kitB "NoneType" "int" = some false)
  | .bool _ => (by decide +kernel : kitB "bool" "int" = some true)
  | .int _ => (by decide +kernel : kitB "int" "int" = some true)
  | .str _ => (by decide +kernel : kitB "str" "int" = some false)
  | .list _ => (by decide +kernel : kitB "list" "int" = some false)
  | .tuple _ => (by decide +kernel : kitB "tuple" "int" = some false)
  | .dict _ => (by decide +kernel : kitB "dict" "int" = some false)
def isaBool : PyData → Bool
  | .bool _ => true
  | _ => false
theorem kit_bool : ∀ x : PyData, kitB (tyD x) "bool" = some (isaBool x)
  | .none => (by decide +kernel : kitB "NoneType" "bool" = some false)
  | .bool _ => (by decide +kernel : kitB "bool" "bool" = some true)
  | .int _ => (by decide +kernel : kitB "int" "bool" = some false)
  | .str _ => (by decide +kernel : kitB "str" "bool" = some false)
  | .list _ => (by decide +kernel : kitB "list" "bool" = some false)
  | .tuple _ => (by decide +kernel : kitB "tuple" "bool" = some false)
  | .dict _ => (by decide +kernel : kitB "dict" "bool" = some false)
def isaStr : PyData → Bool
  | .str _ => true
  | _ => false
theorem kit_str : ∀ x : PyData, kitB (tyD x) "str" = some (isaStr x)
  | .none => (by decide +kernel : kitB "NoneType" "str" = some false)
  | .bool _ => (by decide +kernel : kitB "bool" "str" = some false)
  | .int _ => (by decide +kernel : kitB "int" "str" = some false)
  | .str _ => (by decide +kernel : kitB "str" "str" = some true)
  | .list _ => (by decide +kernel : kitB "list" "str" = some false)
  | .tuple _ => (by decide +kernel : kitB "tuple" "str" = some false)
  | .dict _ => (by decide +kernel : kitB "dict" "str" = some false)
def isaTuple : PyData → Bool
  | .tuple _ => true
  | _ => false
theorem kit_tuple : ∀ x : PyData, kitB (tyD x) "tuple" = some (isaTuple x)
  | .none => (by decide +kernel : kitB "NoneType" "tuple" = some false)
  | .bool _ => (by decide +kernel : kitB "bool" "tuple" = some false)
  | .int _ => (by decide +kernel : kitB "int" "tuple" = some false)
  | .str _ => (by decide +kernel : kitB "str" "tuple" = some false)
  | .list _ => (by decide +kernel : kitB "list" "tuple" = some false)
  | .tuple _ => (by decide +kernel : kitB "tuple" "tuple" = some true)
  | .dict _ => (by decide +kernel : kitB "dict" "tuple" = some false)
def isaList : PyData → Bool
  | .list _ => true
  | _ => false
theorem kit_list : ∀ x : PyData, kitB (tyD x) "list" = some (isaList x)
  | .none => (by decide +kernel : kitB "NoneType" "list" = some false)
  | .bool _ => (by decide +kernel : kitB "bool" "list" = some false)
  | .int _ => (by decide +kernel : kitB "int" "list" = some false)
  | .str _ => (by decide +kernel : kitB "str" "list" = some false)
  | .list _ => (by decide +kernel : kitB "list" "list" = some true)
  | .tuple _ => (by decide +kernel : kitB "tuple" "list" = some false)
  | .dict _ => (by decide +kernel : kitB "dict" "list" = some false)
def isaDict : PyData → Bool
  | .dict _ => true
  | _ => false
theorem kit_dict : ∀ x : PyData, kitB (tyD x) "dict" = some (isaDict x)
  | .none => (by decide +kernel : kitB "NoneType" "dict" = some false)
  | .bool _ => (by decide +kernel : kitB "bool" "dict" = some false)
  | .int _ => (by decide +kernel : kitB "int" "dict" = some false)
  | .str _ => (by decide +kernel : kitB "str" "dict" = some false)
  | .list _ => (by decide +kernel : kitB "list" "dict" = some false)
  | .tuple _ => (by decide +kernel : kitB "tuple" "dict" = some false)
  | .dict _ => (by decide +kernel : kitB "dict" "dict" = some true)
section
variable {K : PySem.W.Frag} {μ : Mu} {x : PyData}
theorem rc_isint : RC K (rIsi K) [.d x, .r (.ty "int")] μ (.b (isaInt x)) μ := rc_isi (kit_int x)
theorem rc_isbool : RC K (rIsi K) [.d x, .r (.ty "bool")] μ (.b (isaBool x)) μ := rc_isi (kit_bool x)
theorem rc_isstr : RC K (rIsi K) [.d x, .r (.ty "str")] μ (.b (isaStr x)) μ := rc_isi (kit_str x)
theorem rc_istuple : RC K (rIsi K) [.d x, .r (.ty "tuple")] μ (.b (isaTuple x)) μ := rc_isi (kit_tuple x)
theorem rc_islist : RC K (rIsi K) [.d x, .r (.ty "list")] μ (.b (isaList x)) μ := rc_isi (kit_list x)
theorem ev_leLe {δ : Dl} {ta tb tc : TE} {i j k : Int} (ha : Ev K ta δ μ (.i i) μ) (hb : Ev K tb δ μ (.i j) μ) (hc : Ev K tc δ μ (.i k) μ) : Ev K (tChain rLeI rLeI ta tb tc) δ μ (.b (decide (i ≤ j) && decide (j ≤ k))) μ :=
  ev_chain ha hb rv_leI (fun _ => hc) fun _ => rv_leI
theorem st_if0 {δ : Dl} {X : WX} {tt : TT} {t u : TS} {O : SO → Prop} {b : Bool} (e : EvT K tt δ μ b μ) (h1 : b = true → St K X t δ μ O) (h2 : b = false → St K X u δ μ O) : St K X (tIfS tt t u) δ μ O := st_if e h1 h2
theorem ev_lcM {δ : Dl} {μ1 : Mu} {te : TE} {tt : TT} {ws : List W} {wi : TI} {g : TG} {Kp : Mu → Prop} {vs : List Nat} {f : W → PyData} (hi : EvI K wi δ μ ws Kp μ1) (mg : Mg g) (tg : Tg g vs) (hz : ws.length ≤ sizeLine) (hk : Kp μ1)
    (hs : ∀ (i : Nat) (w : W), ws[i]? = some w → ∃ δ2, EvG K g w (wipeD δ vs) μ1 δ2 μ1 ∧ EvT K tt δ2 μ1 true μ1 ∧ Ev K te δ2 μ1 (.d (f w)) μ1) : Ev K (tLc wi g tt te vs) δ μ (.d (.list (ws.map f))) μ1 := by
  have h := ev_lcF (p := fun _ => true) (f := f) hi mg tg hz hk fun i w hw => let ⟨δ2, a, b, c⟩ := hs i w hw; ⟨δ2, a, b, fun _ => c⟩
  rw [List.filter_eq_self.mpr fun _ _ => rfl] at h
  exact h
/-! slices in plain words -/
theorem cut_take {α : Type} {xs : List α} {k : Int} (h : 0 ≤ k) : cutD xs none (some k) = xs.take k.toNat := by
  obtain ⟨n, rfl⟩ := Int.eq_ofNat_of_zero_le h
  unfold cutD
  have e : HT.sIx xs.length xs.length (some (n : Int)) = min n xs.length := HT.sIx_nat _ _ _
  rw [show HT.sIx xs.length 0 none = 0 from rfl, e, List.drop_zero, Nat.sub_zero, Int.toNat_natCast]
  by_cases q : n ≤ xs.length
  · rw [Nat.min_eq_left q]
  · rw [Nat.min_eq_right (by omega), List.take_length, List.take_of_length_le (by omega)]
theorem cut_drop {α : Type} {xs : List α} {k : Int} (h : 0 ≤ k) : cutD xs (some k) none = xs.drop k.toNat := by
  obtain ⟨n, rfl⟩ := Int.eq_ofNat_of_zero_le h
  unfold cutD
  have e : HT.sIx xs.length 0 (some (n : Int)) = min n xs.length := HT.sIx_nat _ _ _
  rw [show HT.sIx xs.length xs.length none = xs.length from rfl, e, Int.toNat_natCast]
  by_cases q : n ≤ xs.length
  · rw [Nat.min_eq_left q, List.take_of_length_le (by simp)]
  · rw [Nat.min_eq_right (by omega), List.drop_length, List.drop_of_length_le (by omega), List.take_nil]
theorem set_same {α : Type} {xs : List α} {n : Nat} {c : α} (h : xs[n]? = some c) : xs.set n c = xs := by
  obtain ⟨q, e⟩ := List.getElem?_eq_some_iff.mp h
  rw [← e]
  exact List.set_getElem_self q
theorem take_more {α : Type} {l : List α} {i : Nat} {x : α} (h : l[i]? = some x) : l.take (i + 1) = l.take i ++ [x] := by
  rw [List.take_add_one, h]
  rfl
theorem atW_last {xs : List W} {w : W} (h : xs.getLast? = some w) : atW xs (-1) = some w := by
  have hne : xs ≠ [] := fun e => by subst e; simp at h
  have hl : 0 < xs.length := List.length_pos_iff.mpr hne
  unfold atW ixN
  rw [if_neg (by decide), if_pos (by omega)]
  show xs[((-1 : Int) + (xs.length : Int)).toNat]? = some w
  rw [show ((-1 : Int) + (xs.length : Int)).toNat = xs.length - 1 by omega, ← List.getLast?_eq_getElem?]
  exact h
theorem atW_nat {xs : List W} {i : Int} {w : W} (h0 : 0 ≤ i) (h : xs[i.toNat]? = some w) : atW xs i = some w := by
  have hl := (List.getElem?_eq_some_iff.mp h).1
  unfold atW ixN
  rw [if_pos h0, if_pos (by omega)]
  exact h
theorem ixN_nat {n : Nat} {i : Int} (h0 : 0 ≤ i) (h : i < (n : Int)) : ixN n i = some i.toNat := by
  unfold ixN
  rw [if_pos h0, if_pos h]
theorem evx_makeJ {δ : Dl} {μ1 μ3 : Mu} {X : WX} {ta : TA} {ws : List W} {Φ : DL.Spec} {n : Nat} {C : Value} {D : Addr} (ha : EvA K ta δ μ ws μ1) (hn : ws.length + 1 = n) (h : Φ (.p μ1.length :: ws) (μ1 ++ [.ins D []]) (· = .exc C μ3)) : EvX K X (tMakeU D (spOf K n Φ) (WE X) ta) δ μ C μ3 := fun F ρ H σ Q k s q =>
  ha F ρ H σ _ k s fun vs F1 ρ1 H1 g1 k1 e1 => fun x dx hx hd ne => by
    obtain ⟨F2, ρ2, g2, k2, e2⟩ := made (C := D) k1 hx hd ne
    refine ⟨by rw [List.length_cons, pr_len e1]; exact hn, F2, ρ2, _, _, _, k2, .cons e2 (vws_go g2 e1), h, fun o ho => ?_⟩
    subst ho
    exact fun F3 ρ3 H3 g3 k3 => q F3 ρ3 H3 ((g1.trans g2).trans g3) k3
/-! fields looked up, put -/
theorem lk_eq {α : Type} {f : Str} {x : α} {r : List (Str × α)} : List.lookup f ((f, x) :: r) = some x := by simp [List.lookup]
theorem lk_ne {α : Type} {f g : Str} {x : α} {r : List (Str × α)} (h : ¬ f = g) : List.lookup f ((g, x) :: r) = List.lookup f r := by
  have e : (f == g) = false := by simpa using h
  simp [List.lookup, e]
theorem pu_nil {f : Str} {w : W} : putW f w [] = [(f, w)] := rfl
theorem pu_eq {f : Str} {w x : W} {r : List (Str × W)} : putW f w ((f, x) :: r) = (f, w) :: r := if_pos rfl
theorem pu_ne {f g : Str} {w x : W} {r : List (Str × W)} (h : ¬ g = f) : putW f w ((g, x) :: r) = (g, x) :: putW f w r := if_neg h
/-! cells looked up -/
theorem ga {μ ys : Mu} {k : Nat} {c : Cell} (h : μ[k]? = some c) : (μ ++ ys)[k]? = some c := by
  rw [List.getElem?_append_left (List.getElem?_eq_some_iff.mp h).1]
  exact h
theorem gs {μ : Mu} {k n : Nat} {c d : Cell} (ne : n ≠ k) (h : μ[k]? = some c) : (μ.set n d)[k]? = some c := by
  rw [List.getElem?_set_ne ne]
  exact h
theorem gS {μ : Mu} {n : Nat} {c d : Cell} (h : μ[n]? = some c) : (μ.set n d)[n]? = some d := List.getElem?_set_self (List.getElem?_eq_some_iff.mp h).1
theorem gL {μ : Mu} {c : Cell} : (μ ++ [c])[μ.length]? = some c := by simp
theorem gN {μ : Mu} {k : Nat} {c : Cell} (h : μ[k]? = some c) : μ.length ≠ k := Nat.ne_of_gt (List.getElem?_eq_some_iff.mp h).1
theorem gl {μ : Mu} {k : Nat} {c : Cell} (h : μ[k]? = some c) : k < μ.length := (List.getElem?_eq_some_iff.mp h).1
end
end DL

set_option Elab.async false
set_option linter.all false
set_option maxRecDepth 100000
set_option maxHeartbeats 2000000
/-! DM1: sorted of data, a dict's keys in a row (sorted, list, tuple, for). -/
namespace DL
open PySem PySem.Spec PyProof.Rows L2
variable [Wd]
theorem each_of {α β : Type} {R : α → β → Prop} {xs : List α} {ys : List β} (h : Paired R xs ys) : PySem.W.EachIs R xs ys := by
  induction h with
  | nil => exact .nil
  | cons r t ih => exact .cons r ih
theorem of_each {α β : Type} {R : α → β → Prop} {xs : List α} {ys : List β} (h : PySem.W.EachIs R xs ys) : Paired R xs ys := by
  induction h with
  | nil => exact .nil
  | cons r t ih => exact .cons r ih
def sortD (ds : List PyData) : List PyData := ds.mergeSort (PySem.W.dataLe false id)
/-- what sorted asks of its data -/
structure SortOk (ds : List PyData) : Prop where
  al : PySem.W.AllAlike ds
  so : PySem.W.Sortable ds
  de : ∀ d ∈ ds, d.depth ≤ 32
def rSortedD (K : PySem.W.Frag) : List V → Hp → VK → Prop := fun vs H Q => ∃ (R : V → PyData → Prop) (a : Addr) (xs : List V) (ds : List PyData), (∀ x d, R x d → Dp K H x d) ∧ vs = [.ref a] ∧ SqL K H a xs ∧ Paired R xs ds ∧ SortOk ds ∧
  ∀ ys p, Paired R ys (sortD ds) → H p = none → Q (.ref p) (upd H p (.lst ys))
/-- u stands for the data d -/
def Std (R : V → PyData → Prop) (u : Value) (d : PyData) : Prop := ∃ x : V, RelV x u ∧ R x d
theorem std_of {R : V → PyData → Prop} {xs : List V} {ds : List PyData} (h : Paired R xs ds) : ∀ {us : List Value}, Vals xs us → Paired (Std R) us ds := by
  induction h with
  | nil => intro us r; cases r; exact .nil
  | cons d t ih => intro us r; cases r with | cons r1 r2 => exact .cons ⟨_, r1, d⟩ (ih r2)
theorem of_std {R : V → PyData → Prop} {us : List Value} {ds : List PyData} (h : Paired (Std R) us ds) : ∃ xs : List V, Vals xs us ∧ Paired R xs ds := by
  induction h with
  | nil => exact ⟨[], .nil, .nil⟩
  | cons d t ih =>
    obtain ⟨x, r, e⟩ := d
    obtain ⟨xs, r2, e2⟩ := ih
    exact ⟨x :: xs, .cons r r2, .cons e e2⟩
theorem sortD_len (ds : List PyData) : (sortD ds).length = ds.length := List.length_mergeSort ds
theorem cr_sortedD {X : Cx} (hu : X.A.units + 64 < cLine) : CallR X (.builtin "sorted") (rSortedD X.K) := by
  intro pins s σ H vs us Q I r h
  obtain ⟨R, a, xs, ds, hR, rfl, hs, hp, ok, q⟩ := h
  obtain ⟨its, rv, hl, hz⟩ := I.list hs
  obtain ⟨u, rfl, ru⟩ := vals1 r
  obtain rfl : u = Value.ref a := ru
  have st := std_of hp rv
  have hle : ds.length ≤ sizeLine := by rw [← Paired.length hp]; exact hz
  refine PySem.W.sorted_data (enc := id) (R := Std R) (bs := ds) hl.isList (each_of st) (each_of ?_) (by rw [List.map_id]; exact ok.al) (by rw [List.map_id]; exact ok.so) hle (fun d hd => ?_) fun out hlen ho => ?_
  · refine PySem.Paired.mono ?_ st
    intro u d ⟨x, r, e⟩
    exact Dp.reads I d x u (hR x d e) r
  · have := ok.de d hd
    show X.A.units + 2 + d.depth < cLine
    omega
  · obtain ⟨ys, ry, dy⟩ := of_std (of_each ho)
    obtain ⟨e, he⟩ := sortedAll_at s.heap its out.toArray
    refine ⟨.ref (s.heap.objs.size + 1), upd H (s.heap.objs.size + 1) (.lst ys), I.laid (t' := s.toks) (fun b o hb => sortedAll_old hb) (Nat.le_succ _) ⟨?_, out, e, ry, he⟩, rfl, q ys _ dy (I.hok.fresh (Nat.le_succ _))⟩
    rw [ry.length, hlen]
    exact hle
/-! ### a dict's keys -/
def kD : Key → PyData
  | .inl i => .int i
  | .inr x => .str x
theorem kD_dp {K : PySem.W.Frag} {H : Hp} : ∀ k : Key, Dp K H (kV k) (kD k)
  | .inl i => .int i
  | .inr x => .str x
def DKeys (R : V → PyData → Prop) (H : Hp) (a : Addr) (ds : List PyData) : Prop :=
  (∃ kvs : List (Key × V), H a = some (.dK kvs) ∧ (∀ k : Key, R (kV k) (kD k)) ∧ ds = kvs.map fun p => kD p.1) ∨ ∃ kvs : NKs, H a = some (DnO a kvs) ∧ (∀ p ∈ kvs, R (.ref p.2.1) p.1.data) ∧ ds = kvs.map fun p => p.1.data
theorem dkeys_raw {X : Cx} {pins : List (Addr × Obj)} {σ : L2.St} {H : Hp} {s : Shared} {a : Addr} {ds : List PyData} {R : V → PyData → Prop} (hW : WdOk X) (I : Inv X pins σ H s) (h : DKeys R H a ds) :
    (a == sysModules) = false ∧ ds.length ≤ sizeLine ∧ ∃ es ep, s.heap.DictRaw a es ep ∧ es.size = ds.length ∧ ∀ (i : Nat) (hi : i < es.size) (d : PyData), ds[i]? = some d → Std R es[i].key d := by
  rcases h with ⟨kvs, e, hkk, rfl⟩ | ⟨kvs, e, hk, rfl⟩
  · obtain ⟨z, hm, vs, rel, dd⟩ := dk_rd I.hok (.inl e)
    obtain ⟨ep, hat⟩ := dd.dictAt
    obtain ⟨es, h1, h2, h3⟩ := PySem.Heap.DictAt.raw hat
    refine ⟨hm, by rw [List.length_map]; exact z, es, ep, h1, by rw [h2, List.length_map, rel.length], fun i hi d hd => ?_⟩
    rw [List.getElem?_map] at hd
    obtain ⟨p, hp, rfl⟩ := Option.map_eq_some_iff.mp hd
    obtain ⟨q, hq, eq, _⟩ : ∃ q, vs[i]? = some q ∧ p.1 = q.1 ∧ RelV p.2 q.2 := by
      have : ∀ {kvs : List (Key × V)} {vs : List (Key × Value)} {i : Nat}, KV kvs vs → kvs[i]? = some p → ∃ q, vs[i]? = some q ∧ p.1 = q.1 ∧ RelV p.2 q.2 := by
        intro kvs vs i r
        induction r generalizing i with
        | nil => intro e; simp at e
        | cons a t ih =>
          cases i with
          | zero => intro e; simp at e; subst e; exact ⟨_, rfl, a⟩
          | succ i => intro e; exact ih (i := i) (by simpa using e)
      exact this rel hp
    obtain ⟨hkey, _⟩ := h3 i hi q.1 q.2 hq
    rw [← eq] at hkey
    refine ⟨kV p.1, ?_, hkk p.1⟩
    rcases keyIs_shape (k := p.1) (v := es[i].key) hkey with ⟨j, t, ek, ev⟩ | ⟨x, t, ek, ev⟩
    · rw [ek, ev]; exact ⟨t, rfl⟩
    · rw [ek, ev]; exact ⟨t, rfl⟩
  · obtain ⟨z, hm, xs, h3, h4, o, es, ep, h5, h6, h7, h8⟩ := dnO_at I.hok e
    refine ⟨hm, by rw [List.length_map]; exact z, es, ep, ⟨o, h5, h6, h7⟩, ?_, fun i hi d hd => ?_⟩
    · rw [← Array.length_toList, h8, List.length_map, List.length_map, h3.len]
    · rw [List.getElem?_map] at hd
      obtain ⟨p, hp, rfl⟩ := Option.map_eq_some_iff.mp hd
      obtain ⟨q, hq, eq1, eq2, _⟩ : ∃ q, xs[i]? = some q ∧ p.1 = q.1 ∧ p.2.1 = q.2.1 ∧ RelV p.2.2 q.2.2 := by
        have : ∀ {kvs : NKs} {xs : List (NK × Addr × Value)} {i : Nat}, NKV kvs xs → kvs[i]? = some p → ∃ q, xs[i]? = some q ∧ p.1 = q.1 ∧ p.2.1 = q.2.1 ∧ RelV p.2.2 q.2.2 := by
          intro kvs vs i r
          induction r generalizing i with
          | nil => intro e; simp at e
          | cons a t ih =>
            cases i with
            | zero => intro e; simp at e; subst e; exact ⟨_, rfl, a⟩
            | succ i => intro e; exact ih (i := i) (by simpa using e)
        exact this h3 hp
      have e1 : es.toList[i]? = some es[i] := by rw [Array.getElem?_toList]; exact Array.getElem?_eq_getElem hi
      rw [h8, List.getElem?_map, hq] at e1
      simp only [Option.map_some, Option.some.injEq] at e1
      rw [← e1]
      refine ⟨.ref p.2.1, ?_, hk p (List.mem_of_getElem? hp)⟩
      show Value.ref q.2.1 = Value.ref p.2.1
      rw [eq2]
theorem paired_at {α β : Type} {R : α → β → Prop} : ∀ {xs : List α} {ys : List β}, xs.length = ys.length → (∀ (i : Nat) (x : α) (y : β), xs[i]? = some x → ys[i]? = some y → R x y) → Paired R xs ys
  | [], [], _, _ => .nil
  | x :: xs, y :: ys, hl, h => .cons (h 0 x y rfl rfl) (paired_at (by simpa using hl) fun i a b e1 e2 => h (i + 1) a b (by simpa using e1) (by simpa using e2))
  | [], _ :: _, hl, _ => by simp at hl
  | _ :: _, [], hl, _ => by simp at hl
/-- the keys of a dict, collected -/
theorem dk_collect {X : Cx} {pins : List (Addr × Obj)} {σ : L2.St} {H : Hp} {s : Shared} {a : Addr} {ds : List PyData} {A : Around} {T : V → PyData → Prop} {R : List Value → Shared → Prop} {E : Value → Shared → Prop} (hW : WdOk X) (hh : A.handled = none) (I : Inv X pins σ H s) (h : DKeys T H a ds)
    (q : ∀ (h' : Heap) (tk : Nat) (us : List Value), (∀ b o, s.heap.get? b = some o → h'.get? b = some o) → Paired (Std T) us ds → R us { s with heap := h', toks := tk }) : wpAny (model X.prog X.w) A (collect (.ref a)) R E s := by
  obtain ⟨lo, hz, es, ep, h1, h2, h3⟩ := dkeys_raw hW I h
  refine PySem.W.kdu_collect (KdlSrc.rawDict lo) hh h1 (by rw [h2]; exact hz) fun h' tk acc hk hacc => q h' tk acc.toList hk ?_
  refine paired_at (by rw [Array.length_toList, hacc.1, h2]) fun i u d e1 e2 => ?_
  obtain ⟨hi, rfl⟩ := hacc.2 i u (by rw [← Array.getElem?_toList]; exact e1)
  exact h3 i hi d e2
def rSortedK [Wd] (K : PySem.W.Frag) : List V → Hp → VK → Prop := fun vs H Q => ∃ (R : V → PyData → Prop) (a : Addr) (ds : List PyData), (∀ x d, R x d → Dp K H x d) ∧ vs = [.ref a] ∧ DKeys R H a ds ∧ SortOk ds ∧
  ∀ ys p, Paired R ys (sortD ds) → H p = none → Q (.ref p) (upd H p (.lst ys))
theorem cr_sortedK {X : Cx} (hW : WdOk X) (hc : X.calm = true) (hu : X.A.units + 64 < cLine) : CallR X (.builtin "sorted") (rSortedK X.K) := by
  intro pins s σ H vs us Q I r h
  obtain ⟨R, a, ds, hR, rfl, hd, ok, q⟩ := h
  obtain ⟨u, rfl, ru⟩ := vals1 r
  obtain rfl : u = Value.ref a := ru
  refine Calls.call_function_entry PyProof.Rows.kind_sorted PyProof.Rows.plain_sorted PyProof.Rows.entry_sorted (PyProof.Rows.args_sorted1 _) ?_
  unfold Builtin.«sorted»
  refine wpAny_bind (m := checkCount "sorted" 1 1 _) (wpAny_pure ?_)
  refine wpAny_bind (dk_collect (A := X.A.in1) hW (I.ok.hd hc) I hd fun h' tk vs hk st => ?_)
  have I1 : Inv X pins σ H { s with heap := h', toks := tk } := I.kept hk
  have hz : ds.length ≤ sizeLine := (dkeys_raw hW I hd).2.1
  have hl : vs.length = ds.length := Paired.length st
  refine wpAny_bind (wpAny_newList ?_ (by rw [hl]; exact hz))
  have hoL : (h'.push (seqObj "list" vs.toArray 0)).get? h'.objs.size = some (seqObj "list" vs.toArray 0) := Heap.get?_push_size _ rfl
  show wpAny _ _ _ _ _ { s with heap := h'.push (seqObj "list" vs.toArray 0), toks := tk }
  have rd : Paired (fun v d => ∃ as, Reads (PySem.W.sortingHeap (h'.push (seqObj "list" vs.toArray 0)) h'.objs.size vs) v d as) vs ds := by
    refine PySem.Paired.mono ?_ st
    intro u d ⟨x, r, e⟩
    obtain ⟨as, ra⟩ := Dp.reads I1 d x u (hR x d e) r
    exact ⟨as, PyProof.Rows.Reads.keeps (fun b o hb => PySem.W.sortingHeap_old (Nat.ne_of_lt (Heap.lt_size hb)) (Heap.get?_push_of_some _ hb)) ra⟩
  refine wpAny_bind (wpAny_holding (wpAny_call_entry PyProof.Rows.slot_list_sort ⟨_, hoL, rfl⟩ PyProof.Rows.entry_list_sort
    (PySem.W.list_sort_vals (s := { s with heap := h'.push (seqObj "list" vs.toArray 0), toks := tk }) (κ := PySem.W.dataKind (PySem.W.sortingHeap (h'.push (seqObj "list" vs.toArray 0)) h'.objs.size vs) ds) hoL
      (PySem.W.SortsAt.data (s := { s with heap := PySem.W.sortingHeap (h'.push (seqObj "list" vs.toArray 0)) h'.objs.size vs, toks := tk }) (each_of rd) ok.al ok.so fun d hd => ?_) (by rw [hl]; exact hz) ⟨_, rfl, ?_⟩)
    (PyProof.Rows.args_list_sort _)))
  · have := ok.de d hd
    show X.A.units + 1 + 1 + d.depth < cLine
    omega
  · have so := PySem.W.sortVals_data (enc := id) (h' := PySem.W.sortingHeap (h'.push (seqObj "list" vs.toArray 0)) h'.objs.size vs) (R := Std R) false (each_of st) (each_of rd) (by rw [List.map_id]; exact ok.al)
    rw [List.map_id] at so
    generalize hout : PySem.W.sortVals _ false vs vs = out at so ⊢
    obtain ⟨ys, ry, dy⟩ := of_std (of_each so)
    obtain ⟨e', he'⟩ := PyProof.Rows.sortedHeap_at (vs := vs) (out := out.toArray) hoL
    refine wpAny_pure ⟨_, rfl, .ref h'.objs.size, upd H h'.objs.size (.lst ys), I1.laid (t' := tk) (fun b u e => ?_) (Nat.le_refl _)
      (show ObjOk X.prog X.w _ _ _ (.lst ys) from ⟨?_, out, e', ry, he'⟩), rfl, q ys _ dy (I1.hok.fresh (Nat.le_refl _))⟩
    · have hb : b < h'.objs.size := Heap.lt_size e
      rw [PyProof.Rows.sortedHeap_old (Nat.ne_of_lt hb) (by rw [size_push']; exact Nat.lt_succ_of_lt hb)]
      exact Heap.get?_push_of_some _ e
    · rw [Paired.length dy, List.length_mergeSort]
      exact hz
end DL

set_option Elab.async false
set_option linter.all false
set_option maxRecDepth 100000
set_option maxHeartbeats 2000000
/-! DM2: comprehensions of dicts of either kind (after HandS.DictComp, for any first object o0). -/
namespace DL
open PySem PySem.Spec PyProof.Rows L2
variable [Wd]
section
variable {X : Cx}
theorem dn_dictSet {pins : List (Addr × Obj)} {σ : L2.St} {H H' : Hp} {s : Shared} {E : Value → Shared → Prop} {D : Addr} {y v : V} {u r : Value} {Q : Unit → Shared → Prop} (hW : WdOk X) (hu : X.A.units + 9 < cLine) (I : Inv X pins σ H s) (g : DPN X.K H D y v H')
    (ry : RelV y u) (rv : RelV v r) (h : ∀ s', Inv X pins σ H' s' → Q () s') : wpAny (model X.prog X.w) X.A (dictSet D u r) Q E s := by
  rcases g with ⟨kvs, k, e, ey, l, eH⟩ | ⟨kvs, k, b, e, ey, d, hd, hk, l, eH⟩
  · subst ey eH
    exact d_dictSet I e l ry rv h
  · subst ey eH
    cases (show u = Value.ref b from ry)
    obtain ⟨z, hm, xs, rel, dd⟩ := dn_of hW I e hk
    have hz : xs.length ≤ sizeLine := by rw [← rel.len]; exact z
    have hl : (putN kvs k b v).length ≤ sizeLine := by have := length_putN kvs k b v; omega
    refine wpAny_dictSet_heap (hsz := hz) (show (nestedKind X.prog X.w).room X.A from (by show X.A.units + 8 < cLine; omega)) ⟨nested_is I k d rfl, hd⟩ dd fun h' dd' hs => h _ ?_
    have he : ∃ q, h'.get? D = some q := let ⟨q, _, _, hq, _⟩ := dd'; ⟨q, hq⟩
    exact d_write I (by rw [e]; exact True.intro) hs he (dn_new hW hl hm (rel.put k b rv) dd')
def tDcN [Wd] (K : PySem.W.Frag) (o0 : Addr → HO) (wi : TI) (g : TG) (tt : TT) (tk tv : TE) (vs : List Nat) : TE := fun σ H Q => wi σ H fun J H1 => ∀ D, H1 D = none → ∃ W : Nat → Nat → Hp → Prop, (∃ m, W 0 m (upd H1 D (o0 D))) ∧ ∀ i m H, W i m H →
  (J.stop i H ∧ Q (.ref D) H) ∨ (J.go i H ∧ ∃ Nx : Hp → Prop, (∀ H', Nx H' → ∃ m', m' < m ∧ W (i + 1) m' H') ∧ ∀ x H', J.yld i H x H' → g x (wipe σ vs) H' fun σ2 H2 => wipe σ2 vs = wipe σ vs ∧ tt σ2 H2 fun b H3 =>
    if b = true then tk σ2 H3 fun y H4 => tv σ2 H4 fun z H5 => ∃ H6, DPN K H5 D y z H6 ∧ Nx H6 else Nx H3)
theorem dcN_core {pins : List (Addr × Obj)} {s : Shared} {σ : L2.St} {H : Hp} {Q : VK} {kx vx tg iter : Expr} {ifs : List Expr} {scope : Scope} {own : List (Str × Nat)} {pos pos' : Pos} {wi : TI} {g : TG} {tt : TT} {tk tv : TE} {use : Option (Value → Sem Unit)} {Qf : Value → Shared → Prop} {o0 : Addr → HO}
    (hW : WdOk X) (hu : X.A.units + 9 < cLine) (h0 : ∀ (H : Hp) (h : Heap), sysModules < h.objs.size → ObjOk X.prog X.w H (h.push { cls := .type "dict", data := .dict #[] }) h.objs.size (o0 h.objs.size)) (hc : X.calm = true) (hN : X.N.Nodup) (I : Inv X pins σ H s) (hi : PI X tg iter wi) (ok : BlkOk X.N X.env.scope scope own)
    (hg : ∀ (s : Shared) (H : Hp) (C : Addr) (cl : List (Str × Addr)) (fp : List Addr), PG (X.blk s H scope (compEnvC scope cl C X.env) fp) tg g) (ht : ∀ (s : Shared) (H : Hp) (C : Addr) (cl : List (Str × Addr)) (fp : List Addr), PTs (X.blk s H scope (compEnvC scope cl C X.env) fp) ifs tt)
    (hk : ∀ (s : Shared) (H : Hp) (C : Addr) (cl : List (Str × Addr)) (fp : List Addr), PE (X.blk s H scope (compEnvC scope cl C X.env) fp) kx tk)
    (he : ∀ (s : Shared) (H : Hp) (C : Addr) (cl : List (Str × Addr)) (fp : List Addr), PE (X.blk s H scope (compEnvC scope cl C X.env) fp) vx tv) (hs : ∀ x, foldedSetIterable iter X.env x = pure x)
    (h : tDcN X.K o0 wi g tt tk tv (own.map (·.2)) σ H Q)
    (hRR : ∀ D C s' m H', Inv X pins σ H' s' → Q (.ref D) H' → s'.heap.Ns C m → FpOk X pins H' C → compPost (model X.prog X.w) X.A X.xe use Qf (.ref D) C (.ok .next) s') :
    wpAny (model X.prog X.w) X.A (comprehension (.DictComp kx vx [⟨tg, iter, ifs, 0⟩] scope pos) scope X.env pos' newDict false (eval iter X.env) use) Qf X.xe s := by
  have hfree : ∀ y ∈ scope.names, y.2 = .free → ∃ c, X.env.cells.lookup y.1 = some c := fun y hy e => by
    rcases ok.free y hy e with k | k
    · exact I.ok.has _ (.inl k)
    · exact I.ok.has _ (.inr k)
  refine wpAny_comprehension_free (use := use) rfl hs (closure_ok hfree) ok.kind (fun y hy e => by rw [ok.uniq y hy, e])
    (thn (hi.run pins s σ H _ I h) fun xv s1 hx => thn hx fun itv s2 h2 => ?_)
  obtain ⟨it, fp, tn, J, H2, e, I2, T, st2, f2, q⟩ := h2
  subst e
  refine wpAny_newObj_type (newEnv_comp ?_)
  generalize hD : s2.heap.objs.size = D
  have hDn : H2 D = none := I2.hok.fresh (Nat.le_of_eq hD)
  obtain ⟨W, ⟨m0, w0⟩, turn⟩ := q D hDn
  -- the new list
  generalize hs3 : ({ s2 with heap := s2.heap.push { cls := .type "dict", data := .dict #[] } } : Shared) = s3
  have I3 : Inv X pins σ (upd H2 D (o0 D)) s3 := by
    rw [← hs3]
    refine I2.laid (t' := s2.toks) (fun b o e => Heap.get?_push_of_some _ e) (Nat.le_of_eq hD) ?_
    rw [← hD]
    exact h0 _ s2.heap I2.big
  have h3 : s3.heap = s2.heap.push { cls := .type "dict", data := .dict #[] } := by rw [← hs3]
  have sz : ∀ b ∈ fp, b < s2.heap.objs.size := fun b hb => by
    obtain ⟨o, e, _⟩ := T.obj _ _ st2 b hb
    exact Heap.lt_size e
  have f3 : ∀ b ∈ fp, FpOk X pins (upd H2 D (o0 D)) b ∧ b < s3.heap.objs.size := fun b hb => by
    have hlt := sz b hb
    refine ⟨⟨?_, (f2 b hb).2⟩, by rw [h3, Heap.size_push]; exact Nat.lt_succ_of_lt hlt⟩
    rw [upd_ne (by rw [← hD]; exact Nat.ne_of_lt hlt)]
    exact (f2 b hb).1
  have st3 : tn 0 s3.heap := T.keep _ _ _ st2 fun b _ o e => by rw [h3]; exact Heap.get?_push_of_some _ e
  have I4 := block_start I3 ok hN f3
  have pg := hg s3 (upd H2 D (o0 D)) s3.heap.objs.size (cellsFrom (s3.heap.objs.size + 1) scope.names (cloFrom X.env.cells scope.names [])) fp
  have pt := ht s3 (upd H2 D (o0 D)) s3.heap.objs.size (cellsFrom (s3.heap.objs.size + 1) scope.names (cloFrom X.env.cells scope.names [])) fp
  have pk := hk s3 (upd H2 D (o0 D)) s3.heap.objs.size (cellsFrom (s3.heap.objs.size + 1) scope.names (cloFrom X.env.cells scope.names [])) fp
  have pe := he s3 (upd H2 D (o0 D)) s3.heap.objs.size (cellsFrom (s3.heap.objs.size + 1) scope.names (cloFrom X.env.cells scope.names [])) fp
  show codeAny _ _ (.compStart (.DictComp kx vx [⟨tg, iter, ifs, 0⟩] scope pos) 0 (.ref it) (.ref D) (compEnvC scope (cellsFrom (s3.heap.objs.size + 1) scope.names (cloFrom X.env.cells scope.names [])) s3.heap.objs.size X.env)) (compPost (model X.prog X.w) X.A X.xe use Qf (.ref D) s3.heap.objs.size) { s3 with heap := pushCells (s3.heap.push { cls := .type "dict", data := .dict #[] }) scope.names }
  have nfp : ∀ b ∈ fp, (upd H2 D (o0 D)) b = none := fun b hb => (f3 b hb).1.1
  generalize hce : compEnvC scope (cellsFrom (s3.heap.objs.size + 1) scope.names (cloFrom X.env.cells scope.names [])) s3.heap.objs.size X.env = ce at I4 pg pt pk pe ⊢
  have cL : ce.locals = s3.heap.objs.size := by subst hce; rfl
  generalize hH3 : upd H2 D (o0 D) = H3 at I3 I4 pg pt pk pe w0 nfp f3
  generalize hs4 : ({ s3 with heap := pushCells (s3.heap.push { cls := .type "dict", data := .dict #[] }) scope.names } : Shared) = s4 at I4 ⊢
  have st4 : tn 0 s4.heap := T.keep _ _ _ st3 fun b _ o e => by rw [← hs4]; exact pushCells_keeps _ _ _ _ (Heap.get?_push_of_some _ e)
  have stat : ∀ {σ' : L2.St} {H' : Hp} {s' : Shared}, Inv (X.blk s3 H3 scope ce fp) [] σ' H' s' → (∀ b ∈ fp, H' b = none) → ∀ b ∈ fp, FpOk (X.blk s3 H3 scope ce fp) [] H' b := fun {σ' H' s'} I' hn b hb =>
    ⟨hn b hb, (I'.ok.exf b hb).1, I'.ok.exfs b hb, .inl hb, fun x c e => (I'.ok.exf b hb).2 x c e, fun p hp => absurd (show p ∈ ([] : List (Addr × Obj)) ++ [] from hp) (by simp)⟩
  have loop : codeAny (model X.prog X.w) X.A (.compLoop (.DictComp kx vx [⟨tg, iter, ifs, 0⟩] scope pos) 0 (.ref it) (.ref D) ce) (compPost (model X.prog X.w) X.A X.xe use Qf (.ref D) s3.heap.objs.size) s4 := by
    refine compLoop_anyD (fun n s' => ∃ i H', Inv (X.blk s3 H3 scope ce fp) [] (wipe σ (own.map (·.2))) H' s' ∧ tn i s'.heap ∧ (∀ b ∈ fp, H' b = none) ∧ W i n H') ?_ m0 ⟨0, H3, I4, st4, nfp, w0⟩
    rintro n s5 ⟨i, H5, I5, st5, n5, w5⟩
    rcases turn i n H5 w5 with ⟨stop, qq⟩ | ⟨go, Nx, hNx, step⟩
    · have td := T.done (X.blk s3 H3 scope ce fp) rfl rfl rfl hc i [] s5 _ H5 (fun _ _ => False) I5 (stat I5 n5) st5 stop
      refine thnF td fun r s6 ⟨hr, I6⟩ => ?_
      subst hr
      -- back in the def's context
      have I7 : Inv X pins σ H5 s6 := I3.call' (ch := fp) I6.os I6.base I6.hok I6.bare fun b hb => ⟨(f3 b hb).1.2.2.2.1, (f3 b hb).1.2.1, (f3 b hb).1.2.2.2.2.1, (f3 b hb).1.2.2.2.2.2⟩
      have nC : H5 s3.heap.objs.size = none := by
        have z : H5 ce.locals = none := I6.free
        rw [cL] at z
        exact z
      obtain ⟨m, hn, _⟩ := I6.loc
      have hn : s6.heap.Ns ce.locals m := hn
      rw [cL] at hn
      exact hRR D s3.heap.objs.size s6 m H5 I7 qq hn (I3.fpOk (Nat.le_refl _) nC)
    · have ti := T.item (X.blk s3 H3 scope ce fp) rfl rfl rfl hc i [] s5 _ H5 (fun _ _ => False) I5 (stat I5 n5) st5 go
      refine thnF ti fun r s6 ⟨u, hr, h6⟩ => ?_
      subst hr
      refine thnF h6 fun _ s7 ⟨x, H7, I7, r7, y7, st7, n7⟩ => ?_
      have I7' := I7.pinned (stat I7 n7) (T.obj _ _ st7)
      refine thnF (pg.run _ s7 _ H7 x u _ I7' r7 (step x H7 y7)) fun _ s8 ⟨σ8, H8, I8, hw8, q8⟩ => ?_
      refine thnF (pt.run _ s8 σ8 H8 _ I8 q8) fun b s9 ⟨H9, I9, q9⟩ => ?_
      -- the turn's end
      have fin : ∀ {s' : Shared} {H' : Hp}, Inv (X.blk s3 H3 scope ce fp) ([] ++ pinsAt fp s7.heap) σ8 H' s' → Nx H' → ∃ m, m < n ∧ ∃ i H', Inv (X.blk s3 H3 scope ce fp) [] (wipe σ (own.map (·.2))) H' s' ∧ tn i s'.heap ∧ (∀ b ∈ fp, H' b = none) ∧ W i m H' := fun {s' H'} I' nx => by
        obtain ⟨m', hm, w'⟩ := hNx H' nx
        have pin' : ∀ b ∈ fp, ∀ o, s7.heap.get? b = some o → s'.heap.get? b = some o ∧ H' b = none := fun b hb o e =>
          let z := I'.pin (b, o) (List.mem_append_right _ (List.mem_append_right _ (mem_pinsAt hb e)))
          ⟨z.1, z.2.1⟩
        have hl : (wipe σ (own.map (·.2))).length = σ8.length := by rw [← hw8, wipe_length]
        refine ⟨m', hm, i + 1, H', (I'.unpinned (pins := [])).weak hl (fun j v e => ?_), T.keep _ _ _ st7 fun b hb o e => (pin' b hb o e).1, fun b hb => ?_, w'⟩
        · rw [← hw8] at e
          exact (wipe_some e).1
        · obtain ⟨o, e, _⟩ := T.obj _ _ st7 b hb
          exact (pin' b hb o e).2
      cases b with
      | false =>
        simp only [Bool.false_eq_true, if_false] at q9 ⊢
        exact fin I9 q9
      | true =>
        simp only [if_true] at q9 ⊢
        refine thnF (pk.run _ s9 σ8 H9 _ I9 q9) fun z s10 ⟨yk, H10, I10, r10, q10⟩ => ?_
        refine thnF (pe.run _ s10 σ8 H10 _ I10 q10) fun z2 s11 ⟨yv, H11, I11, r11, H12, g12, nx⟩ => ?_
        exact dn_dictSet (X := X.blk s3 H3 scope ce fp) ⟨hW.p, hW.w⟩ hu I11 g12 r10 r11 fun s12 I12 => fin I12 nx
  exact codeAny_compStart_dict loop (T.self X.A 0 _ _ _ st4 loop)
/-- as a value -/
theorem pe_dcN {kx vx tg iter : Expr} {ifs : List Expr} {scope : Scope} {own : List (Str × Nat)} {pos : Pos} {wi : TI} {g : TG} {tt : TT} {tk tv : TE} {o0 : Addr → HO} (hW : WdOk X) (hu : X.A.units + 9 < cLine) (h0 : ∀ (H : Hp) (h : Heap), sysModules < h.objs.size → ObjOk X.prog X.w H (h.push { cls := .type "dict", data := .dict #[] }) h.objs.size (o0 h.objs.size)) (hc : X.calm = true) (hN : X.N.Nodup) (hi : PI X tg iter wi) (ok : BlkOk X.N X.env.scope scope own)
    (hg : ∀ (s : Shared) (H : Hp) (C : Addr) (cl : List (Str × Addr)) (fp : List Addr), PG (X.blk s H scope (compEnvC scope cl C X.env) fp) tg g) (ht : ∀ (s : Shared) (H : Hp) (C : Addr) (cl : List (Str × Addr)) (fp : List Addr), PTs (X.blk s H scope (compEnvC scope cl C X.env) fp) ifs tt)
    (hk : ∀ (s : Shared) (H : Hp) (C : Addr) (cl : List (Str × Addr)) (fp : List Addr), PE (X.blk s H scope (compEnvC scope cl C X.env) fp) kx tk)
    (he : ∀ (s : Shared) (H : Hp) (C : Addr) (cl : List (Str × Addr)) (fp : List Addr), PE (X.blk s H scope (compEnvC scope cl C X.env) fp) vx tv) (hs : ∀ x, foldedSetIterable iter X.env x = pure x := by intro _; rfl) :
    PE X (.DictComp kx vx [⟨tg, iter, ifs, 0⟩] scope pos) (tDcN X.K o0 wi g tt tk tv (own.map (·.2))) := by
  refine ⟨fun pins s σ H Q I h => ?_⟩
  rw [arm_eval_DictComp]
  refine dcN_core hW hu h0 hc hN I hi ok hg ht hk he hs h fun D C s' m H' I' q hn f => ⟨m, hn, fun h'' sb => ?_⟩
  obtain ⟨f0, f1, f2, f3, f4, f5⟩ := f
  exact ⟨.ref D, H', I'.turned (t' := s'.toks) (fun b o hb e => (sb.2 b hb).trans e) f0 f1 f3 f4 f5, rfl, q⟩
end
end DL

set_option Elab.async false
set_option linter.all false
set_option maxRecDepth 100000
set_option maxHeartbeats 2000000
namespace DL
open PySem PySem.Spec PyProof.Rows L2
variable [Wd]
/-! ### a dict in plain words: pairs in the order they came -/
section
variable {κ : Type} [DecidableEq κ]
def lkD (ks : List (κ × W)) (k : κ) : Option W := (ks.find? fun p => decide (p.1 = k)).map (·.2)
def puD (ks : List (κ × W)) (k : κ) (w : W) : List (κ × W) := if (lkD ks k).isSome then ks.map (fun p => if p.1 = k then (p.1, w) else p) else ks ++ [(k, w)]
def drD (ks : List (κ × W)) (k : κ) : List (κ × W) := ks.filter fun p => decide (p.1 ≠ k)
def mkD (ps : List (κ × W)) : List (κ × W) := ps.foldl (fun acc p => puD acc p.1 p.2) []
theorem lkD_cons (p : κ × W) (ks : List (κ × W)) (k : κ) : lkD (p :: ks) k = if p.1 = k then some p.2 else lkD ks k := by
  unfold lkD
  rw [List.find?_cons]
  by_cases h : p.1 = k
  · simp [h]
  · simp [h]
theorem lkD_nil (k : κ) : lkD ([] : List (κ × W)) k = none := rfl
theorem puD_len (ks : List (κ × W)) (k : κ) (w : W) : (puD ks k w).length ≤ ks.length + 1 := by
  unfold puD
  split
  · rw [List.length_map]; omega
  · rw [List.length_append]; exact Nat.le_refl _
end
def kW : Key → W
  | .inl i => .i i
  | .inr x => .s x
section
variable {K : PySem.W.Frag} {F F' H H' : Hp} {ρ ρ' : List Addr} {μ μ1 μ2 : Mu} {v y : V} {w x z : W} {δ : Dl} {ta tb te : TE}
theorem kw_v {k : Key} (h : VW K F ρ y (kW k)) : y = kV k := by
  cases k with
  | inl i => exact vw_int h
  | inr i => exact vw_s h
theorem kw_val : ∀ {vs : List (Key × V)} {ks : List (Key × W)}, Paired (KW K F ρ) vs ks → ∀ k, (lkD ks k = none ∧ valV vs k = none) ∨ ∃ v w, valV vs k = some v ∧ lkD ks k = some w ∧ VW K F ρ v w
  | _, _, .nil, k => .inl ⟨rfl, rfl⟩
  | p :: vs, q :: ks, .cons ⟨e1, e2⟩ t, k => by
    have ih := kw_val t k
    rw [lkD_cons]
    by_cases z : p.1 = k
    · rw [if_pos (e1 ▸ z), valV_pos z]
      exact .inr ⟨_, _, rfl, rfl, e2⟩
    · rw [if_neg (e1 ▸ z), valV_neg z]
      exact ih
theorem kw_map {k : Key} (hv : VW K F ρ v w) : ∀ {vs : List (Key × V)} {ks : List (Key × W)}, Paired (KW K F ρ) vs ks → Paired (KW K F ρ) (vs.map fun p => if p.1 = k then (p.1, v) else p) (ks.map fun p => if p.1 = k then (p.1, w) else p)
  | _, _, .nil => .nil
  | p :: vs, q :: ks, .cons ⟨e1, e2⟩ t => by
    refine .cons ?_ (kw_map hv t)
    dsimp only
    by_cases z : p.1 = k
    · rw [if_pos z, if_pos (e1 ▸ z)]
      exact ⟨e1, hv⟩
    · rw [if_neg z, if_neg (e1 ▸ z)]
      exact ⟨e1, e2⟩
theorem kw_put {vs : List (Key × V)} {ks : List (Key × W)} (h : Paired (KW K F ρ) vs ks) (k : Key) (hv : VW K F ρ v w) : Paired (KW K F ρ) (putK vs k v) (puD ks k w) := by
  unfold putK puD
  rw [valV_any]
  rcases kw_val h k with ⟨a, b⟩ | ⟨v', w', a, b, c⟩
  · rw [a, b]
    exact pr_app h (.cons ⟨rfl, hv⟩ .nil)
  · rw [a, b]
    exact kw_map hv h
theorem nw_val : ∀ {vs : NKs} {ks : List (NK × W)}, Paired (NW K F ρ) vs ks → ∀ k, (lkD ks k = none ∧ valN vs k = none) ∨ ∃ v w, valN vs k = some v ∧ lkD ks k = some w ∧ VW K F ρ v w
  | _, _, .nil, k => .inl ⟨rfl, rfl⟩
  | p :: vs, q :: ks, .cons ⟨e1, e2⟩ t, k => by
    have ih := nw_val t k
    rw [lkD_cons]
    unfold valN at ih ⊢
    rw [List.find?_cons]
    by_cases z : p.1 = k
    · rw [if_pos (e1 ▸ z)]
      simp only [z, decide_true, Option.map_some]
      exact .inr ⟨_, _, rfl, rfl, e2⟩
    · rw [if_neg (e1 ▸ z)]
      simp only [z, decide_false]
      exact ih
theorem nw_map {k : NK} (hv : VW K F ρ v w) : ∀ {vs : NKs} {ks : List (NK × W)}, Paired (NW K F ρ) vs ks → Paired (NW K F ρ) (vs.map fun p => if p.1 = k then (p.1, p.2.1, v) else p) (ks.map fun p => if p.1 = k then (p.1, w) else p)
  | _, _, .nil => .nil
  | p :: vs, q :: ks, .cons ⟨e1, e2⟩ t => by
    refine .cons ?_ (nw_map hv t)
    dsimp only
    by_cases z : p.1 = k
    · rw [if_pos z, if_pos (e1 ▸ z)]
      exact ⟨e1, hv⟩
    · rw [if_neg z, if_neg (e1 ▸ z)]
      exact ⟨e1, e2⟩
theorem nw_put {vs : NKs} {ks : List (NK × W)} (h : Paired (NW K F ρ) vs ks) (k : NK) (b : Addr) (hv : VW K F ρ v w) : Paired (NW K F ρ) (putN vs k b v) (puD ks k w) := by
  unfold putN puD
  rcases nw_val h k with ⟨a, b⟩ | ⟨v', w', a, b, c⟩
  · rw [a, b]
    exact pr_app h (.cons ⟨rfl, hv⟩ .nil)
  · rw [a, b]
    exact nw_map hv h
theorem keysD_put {vs : NKs} {k : NK} {b : Addr} (h : KeysD K F vs) (hk : Dp K F (.ref b) k.data) (hd : k.depth ≤ 8) : KeysD K F (putN vs k b v) := by
  unfold putN
  split
  · intro p hp
    obtain ⟨q, hq, rfl⟩ := List.mem_map.mp hp
    split
    · exact h q hq
    · exact h q hq
  · intro p hp
    rcases List.mem_append.mp hp with hp | hp
    · exact h p hp
    · simp at hp
      subst hp
      exact ⟨hk, hd⟩
/-- a tuple key -/
theorem nk_ref {ks : List NK} {v : V} (h : Dp K F v (NestedKey.data (.tup ks))) : ∃ b, v = .ref b := by
  simp only [NestedKey.data] at h
  cases h with
  | tup a b => exact ⟨_, rfl⟩
/-! ### what a dict cell answers -/
theorem dg_k {n : Nat} {ks : List (Key × W)} {k : Key} (e : μ[n]? = some (.dk ks)) (hk : Ok K F ρ H μ) {v u : V} (h1 : VW K F ρ v (.p n)) (h2 : VW K F ρ u (kW k)) :
    ∃ a o, v = .ref a ∧ DGN K H a u o ∧ ((lkD ks k = none ∧ o = none) ∨ ∃ v' w, o = some v' ∧ lkD ks k = some w ∧ VW K F ρ v' w) := by
  obtain ⟨a, ea, rfl⟩ := h1
  obtain ⟨b, eb, hF, vs, hb, pr⟩ := hk.at e
  rw [ea] at eb
  cases eb
  refine ⟨a, _, rfl, .inl ⟨vs, k, hb, kw_v h2, rfl⟩, ?_⟩
  rcases kw_val pr k with ⟨a, b⟩ | ⟨v', w', a, b, c⟩
  · exact .inl ⟨a, b⟩
  · exact .inr ⟨v', w', a, b, c⟩
theorem dg_n {n : Nat} {ks : List (NK × W)} {kk : List NK} (e : μ[n]? = some (.dn ks)) (hd : NestedKey.depth (.tup kk) ≤ 8) (hk : Ok K F ρ H μ) {v u : V} (h1 : VW K F ρ v (.p n)) (h2 : VW K F ρ u (.d (NestedKey.data (.tup kk)))) :
    ∃ a o, v = .ref a ∧ DGN K H a u o ∧ ((lkD ks (.tup kk) = none ∧ o = none) ∨ ∃ v' w, o = some v' ∧ lkD ks (.tup kk) = some w ∧ VW K F ρ v' w) := by
  obtain ⟨a, ea, rfl⟩ := h1
  obtain ⟨b, eb, hF, vs, hb, hK, pr⟩ := hk.at e
  rw [ea] at eb
  cases eb
  obtain ⟨b, rfl⟩ := nk_ref h2
  refine ⟨a, _, rfl, .inr ⟨vs, .tup kk, b, hb, rfl, dp_ex hk.ex h2, hd, fun p hp => ⟨dp_ex hk.ex (hK p hp).1, (hK p hp).2⟩, rfl⟩, ?_⟩
  rcases nw_val pr (.tup kk) with ⟨a, b⟩ | ⟨v', w', a, b, c⟩
  · exact .inl ⟨a, b⟩
  · exact .inr ⟨v', w', a, b, c⟩
theorem rv_dixK {n : Nat} {ks : List (Key × W)} {k : Key} (e : μ[n]? = some (.dk ks)) (l : lkD ks k = some w) : RV K (rDIx K) (.p n) (kW k) μ w μ := fun F ρ H v u Q hk a b q => by
  obtain ⟨p, o, rfl, g, ⟨c, _⟩ | ⟨v', w', rfl, c, d⟩⟩ := dg_k e hk a b
  · rw [l] at c; cases c
  · rw [l] at c; cases c
    exact ⟨p, v', rfl, g, q v' F ρ H Go.refl hk d⟩
theorem rv_dixN {n : Nat} {ks : List (NK × W)} {kk : List NK} (e : μ[n]? = some (.dn ks)) (hd : NestedKey.depth (.tup kk) ≤ 8) (l : lkD ks (.tup kk) = some w) : RV K (rDIx K) (.p n) (.d (NestedKey.data (.tup kk))) μ w μ := fun F ρ H v u Q hk a b q => by
  obtain ⟨p, o, rfl, g, ⟨c, _⟩ | ⟨v', w', rfl, c, d⟩⟩ := dg_n e hd hk a b
  · rw [l] at c; cases c
  · rw [l] at c; cases c
    exact ⟨p, v', rfl, g, q v' F ρ H Go.refl hk d⟩
theorem rv_dinK {n : Nat} {ks : List (Key × W)} {k : Key} (e : μ[n]? = some (.dk ks)) : RV K (rDIn K) (kW k) (.p n) μ (.b (lkD ks k).isSome) μ := fun F ρ H v u Q hk a b q => by
  obtain ⟨p, o, rfl, g, ⟨c, rfl⟩ | ⟨v', w', rfl, c, d⟩⟩ := dg_k e hk b a
  · exact ⟨p, _, rfl, g, q _ F ρ H Go.refl hk (by rw [c]; exact Dp.bl _)⟩
  · exact ⟨p, _, rfl, g, q _ F ρ H Go.refl hk (by rw [c]; exact Dp.bl _)⟩
theorem rv_dinN {n : Nat} {ks : List (NK × W)} {kk : List NK} (e : μ[n]? = some (.dn ks)) (hd : NestedKey.depth (.tup kk) ≤ 8) : RV K (rDIn K) (.d (NestedKey.data (.tup kk))) (.p n) μ (.b (lkD ks (.tup kk)).isSome) μ := fun F ρ H v u Q hk a b q => by
  obtain ⟨p, o, rfl, g, ⟨c, rfl⟩ | ⟨v', w', rfl, c, d⟩⟩ := dg_n e hd hk b a
  · exact ⟨p, _, rfl, g, q _ F ρ H Go.refl hk (by rw [c]; exact Dp.bl _)⟩
  · exact ⟨p, _, rfl, g, q _ F ρ H Go.refl hk (by rw [c]; exact Dp.bl _)⟩
theorem rv_dniK {n : Nat} {ks : List (Key × W)} {k : Key} (e : μ[n]? = some (.dk ks)) : RV K (rDNi K) (kW k) (.p n) μ (.b (!(lkD ks k).isSome)) μ := fun F ρ H v u Q hk a b q => by
  obtain ⟨p, o, rfl, g, ⟨c, rfl⟩ | ⟨v', w', rfl, c, d⟩⟩ := dg_k e hk b a
  · exact ⟨p, _, rfl, g, q _ F ρ H Go.refl hk (by rw [c]; exact Dp.bl _)⟩
  · exact ⟨p, _, rfl, g, q _ F ρ H Go.refl hk (by rw [c]; exact Dp.bl _)⟩
theorem rv_dniN {n : Nat} {ks : List (NK × W)} {kk : List NK} (e : μ[n]? = some (.dn ks)) (hd : NestedKey.depth (.tup kk) ≤ 8) : RV K (rDNi K) (.d (NestedKey.data (.tup kk))) (.p n) μ (.b (!(lkD ks (.tup kk)).isSome)) μ := fun F ρ H v u Q hk a b q => by
  obtain ⟨p, o, rfl, g, ⟨c, rfl⟩ | ⟨v', w', rfl, c, d⟩⟩ := dg_n e hd hk b a
  · exact ⟨p, _, rfl, g, q _ F ρ H Go.refl hk (by rw [c]; exact Dp.bl _)⟩
  · exact ⟨p, _, rfl, g, q _ F ρ H Go.refl hk (by rw [c]; exact Dp.bl _)⟩
/-! ### d[k] = e -/
theorem eg_subK {n : Nat} {k : Key} {ks : List (Key × W)} (ha : Ev K ta δ μ (.p n) μ1) (hb : Ev K tb δ μ1 (kW k) μ2) (e : μ2[n]? = some (.dk ks)) (hl : ks.length < sizeLine) :
    EvG K (gSub ta tb (rDSet K)) w δ μ δ (μ2.set n (.dk (puD ks k w))) := fun F ρ H σ v Q k0 s hv q =>
  ha F ρ H σ _ k0 s fun v1 F1 ρ1 H1 g1 k1 e1 => hb F1 ρ1 H1 σ _ k1 (sl_go g1 s) fun v2 F2 ρ2 H2 g2 k2 e2 => by
    obtain ⟨a, ea, rfl⟩ := vw_go g2 e1
    obtain ⟨b, eb, hF, vs, hb, pr⟩ := k2.at e
    rw [ea] at eb
    cases eb
    have hv2 := vw_go g2 (vw_go g1 hv)
    obtain ⟨k3, g3⟩ := k2.put (o := .dK (putK vs k v)) (c := .dk (puD ks k w)) ea hF ⟨hF, _, upd_same, kw_put pr k hv2⟩
    exact ⟨a, _, rfl, .inl ⟨vs, k, hb, kw_v e2, by rw [pr_len pr]; exact hl, rfl⟩, q σ _ _ _ ((g1.trans g2).trans g3) k3 (sl_go g3 (sl_go g2 (sl_go g1 s)))⟩
theorem eg_subN {n : Nat} {kk : List NK} {ks : List (NK × W)} (ha : Ev K ta δ μ (.p n) μ1) (hb : Ev K tb δ μ1 (.d (NestedKey.data (.tup kk))) μ2) (e : μ2[n]? = some (.dn ks)) (hd : NestedKey.depth (.tup kk) ≤ 8) (hl : ks.length < sizeLine) :
    EvG K (gSub ta tb (rDSet K)) w δ μ δ (μ2.set n (.dn (puD ks (.tup kk) w))) := fun F ρ H σ v Q k0 s hv q =>
  ha F ρ H σ _ k0 s fun v1 F1 ρ1 H1 g1 k1 e1 => hb F1 ρ1 H1 σ _ k1 (sl_go g1 s) fun v2 F2 ρ2 H2 g2 k2 e2 => by
    obtain ⟨a, ea, rfl⟩ := vw_go g2 e1
    obtain ⟨b, eb, hF, vs, hb, hK, pr⟩ := k2.at e
    rw [ea] at eb
    cases eb
    have hv2 := vw_go g2 (vw_go g1 hv)
    obtain ⟨b, rfl⟩ := nk_ref e2
    obtain ⟨k3, g3⟩ := k2.put (o := DnO a (putN vs (.tup kk) b v)) (c := .dn (puD ks (.tup kk) w)) ea hF ⟨hF, _, upd_same, keysD_put hK e2 hd, nw_put pr _ b hv2⟩
    exact ⟨a, _, rfl, .inr ⟨vs, .tup kk, b, hb, rfl, dp_ex k2.ex e2, hd, fun p hp => ⟨dp_ex k2.ex (hK p hp).1, (hK p hp).2⟩, by rw [pr_len pr]; exact hl, rfl⟩, q σ _ _ _ ((g1.trans g2).trans g3) k3 (sl_go g3 (sl_go g2 (sl_go g1 s)))⟩
/-! ### new dicts -/
theorem ev_dnewK : Ev K tDNewK δ μ (.p μ.length) (μ ++ [.dk []]) := fun F ρ H σ Q k s q => fun p hp => by
  obtain ⟨k2, g2, e2⟩ := k.push (o := .dK []) (c := .dk []) hp ⟨(k.free hp).1, [], upd_same, .nil⟩
  exact q _ _ _ _ g2 k2 ⟨p, e2, rfl⟩
theorem ev_dnewN : Ev K tDNewN δ μ (.p μ.length) (μ ++ [.dn []]) := fun F ρ H σ Q k s q => fun p hp => by
  obtain ⟨k2, g2, e2⟩ := k.push (o := DnO p []) (c := .dn []) hp ⟨(k.free hp).1, [], upd_same, (fun _ h => nomatch h), .nil⟩
  exact q _ _ _ _ g2 k2 ⟨p, e2, rfl⟩
/-! ### sorted -/
theorem paired_dp {vs : List V} {ds : List PyData} (h : Paired (VW K F ρ) vs (ds.map .d)) (e : Ex F H) : Paired (Dp K H) vs ds := pr_mono (fun _ _ => dp_ex e) (pr_dun h)
theorem freeze_lst {ys : List V} {ds : List PyData} {p : Addr} (k : Ok K F ρ H μ) (hp : H p = none) (h : Paired (Dp K F) ys ds) :
    ∃ F', Go F ρ H F' ρ (upd H p (.lst ys)) ∧ Ok K F' ρ (upd H p (.lst ys)) μ ∧ VW K F' ρ (.ref p) (.d (.list ds)) := by
  obtain ⟨k2, g2⟩ := k.freeze (o := .lst ys) hp
  exact ⟨_, g2, k2, wv_l (SqL.of upd_same) (pr_mono (fun _ _ => dp_ex g2.ex) h)⟩
theorem rc_sortedL {ds : List PyData} (h : Its μ w (ds.map .d)) (ok : SortOk ds) : RC K (rSortedD K) [w] μ (.d (.list (sortD ds))) μ := fun F ρ H vs Q k pr q => by
  cases pr with
  | cons a t =>
    cases t
    obtain ⟨p, xs, rfl, hs, prx⟩ := its_get k a h
    exact ⟨Dp K F, p, xs, ds, fun _ _ => dp_ex k.ex, rfl, hs, pr_dun prx, ok, fun ys l hy hl => by
      obtain ⟨F', g, k', e⟩ := freeze_lst k hl hy
      exact q _ F' ρ _ g k' e⟩
theorem kdW {ks : List (Key × W)} {vs : List (Key × V)} (pr : Paired (KW K F ρ) vs ks) : (vs.map fun p => kD p.1) = ks.map fun p => kD p.1 := by
  induction pr with
  | nil => rfl
  | cons r t ih => rw [List.map_cons, List.map_cons, ih, r.1]
theorem kdN {ks : List (NK × W)} {vs : NKs} (pr : Paired (NW K F ρ) vs ks) : (vs.map fun p => p.1.data) = ks.map fun p => p.1.data := by
  induction pr with
  | nil => rfl
  | cons r t ih => rw [List.map_cons, List.map_cons, ih, r.1]
theorem rc_sortedK {n : Nat} {ks : List (Key × W)} (e : μ[n]? = some (.dk ks)) (ok : SortOk (ks.map fun p => kD p.1)) : RC K (rSortedK K) [.p n] μ (.d (.list (sortD (ks.map fun p => kD p.1)))) μ := fun F ρ H vs Q k pr q => by
  cases pr with
  | cons a t =>
    cases t
    obtain ⟨a, ea, rfl⟩ := a
    obtain ⟨b, eb, hF, vs, hb, pr⟩ := k.at e
    rw [ea] at eb
    cases eb
    exact ⟨Dp K F, a, _, fun _ _ => dp_ex k.ex, rfl, .inl ⟨vs, hb, kD_dp, (kdW pr).symm⟩, ok, fun ys l hy hl => by
      obtain ⟨F', g, k', e⟩ := freeze_lst k hl hy
      exact q _ F' ρ _ g k' e⟩
theorem rc_sortedN {n : Nat} {ks : List (NK × W)} (e : μ[n]? = some (.dn ks)) (ok : SortOk (ks.map fun p => p.1.data)) : RC K (rSortedK K) [.p n] μ (.d (.list (sortD (ks.map fun p => p.1.data)))) μ := fun F ρ H vs Q k pr q => by
  cases pr with
  | cons a t =>
    cases t
    obtain ⟨a, ea, rfl⟩ := a
    obtain ⟨b, eb, hF, vs, hb, hK, pr⟩ := k.at e
    rw [ea] at eb
    cases eb
    exact ⟨Dp K F, a, _, fun _ _ => dp_ex k.ex, rfl, .inr ⟨vs, hb, fun p hp => (hK p hp).1, (kdN pr).symm⟩, ok, fun ys l hy hl => by
      obtain ⟨F', g, k', e⟩ := freeze_lst k hl hy
      exact q _ F' ρ _ g k' e⟩
end
/-! ### comprehensions of dicts whose keys are tuples -/
section
variable {K : PySem.W.Frag} {X : WX} {δ δ1 δ2 : Dl} {μ μ1 μ2 μ' : Mu} {tk tv : TE} {tt : TT} {w : W} {ws : List W} {wi : TI} {g : TG} {Kp : Mu → Prop} {vs : List Nat}
def dn0 (D : Addr) : HO := DnO D []
theorem dcn_core (hi : EvI K wi δ μ ws Kp μ1) (mg : Mg g) (tg : Tg g vs) (hz : ws.length ≤ sizeLine) (P : Nat → Mu → List (NK × W) → Prop) (h0 : P 0 μ1 []) (hk : ∀ i μ acc, P i μ acc → Kp μ)
    (hs : ∀ (i : Nat) (w : W) (μi : Mu) (acc : List (NK × W)), ws[i]? = some w → P i μi acc → ∃ δ2 μ2 b μ3, EvG K g w (wipeD δ vs) μi δ2 μ2 ∧ EvT K tt δ2 μ2 b μ3 ∧
      (b = true → ∃ kk y μ4 μ5, NestedKey.depth (.tup kk) ≤ 8 ∧ Ev K tk δ2 μ3 (.d (NestedKey.data (.tup kk))) μ4 ∧ Ev K tv δ2 μ4 y μ5 ∧ P (i + 1) μ5 (puD acc (.tup kk) y)) ∧ (b = false → P (i + 1) μ3 acc))
    {F : Hp} {ρ : List Addr} {H : Hp} {σ : L2.St} {Q : VK} (k : Ok K F ρ H μ) (s : Sl K F ρ σ δ)
    (q : ∀ D F' ρ' H' μ' acc accV, H D = none → Go F ρ H F' ρ' H' → Ok K F' ρ' H' μ' → F' D = none → D ∉ ρ' → H' D = some (DnO D accV) → KeysD K F' accV → Paired (NW K F' ρ') accV acc → P ws.length μ' acc → Q (.ref D) H') : tDcN K dn0 wi g tt tk tv vs σ H Q := by
  refine hi F ρ H σ _ k s fun J F1 ρ1 H1 g1 k1 r1 => fun D hD => ?_
  have hHD : H D = none := by
    cases e : H D with
    | none => rfl
    | some o => exact absurd hD (g1.tr D (by rw [e]; intro z; cases z))
  obtain ⟨hF1, hr1⟩ := k1.free hD
  refine ⟨fun i m Hi => m = ws.length - i ∧ i ≤ ws.length ∧ ∃ Fi ρi μi acc accV, Go F1 ρ1 H1 Fi ρi Hi ∧ Ok K Fi ρi Hi μi ∧ Fi D = none ∧ D ∉ ρi ∧ Hi D = some (DnO D accV) ∧ KeysD K Fi accV ∧ Paired (NW K Fi ρi) accV acc ∧ acc.length ≤ i ∧ P i μi acc,
    ⟨_, rfl, Nat.zero_le _, F1, ρ1, μ1, [], [], Go.refl.other hD, k1.other hF1 hr1, hF1, hr1, upd_same, (fun _ h => nomatch h), .nil, Nat.le_refl _, h0⟩, ?_⟩
  rintro i m Hi ⟨rfl, hi, Fi, ρi, μi, acc, accV, gi, ki, fD, nD, eD, kD, pr, la, pi⟩
  by_cases hlt : i < ws.length
  · obtain ⟨hgo, hy⟩ := r1.go i ws[i] Fi ρi Hi μi (List.getElem?_eq_getElem hlt) gi ki (hk i μi acc pi)
    obtain ⟨δ2, μ2, b, μ3, hg, ht, hT, hF⟩ := hs i ws[i] μi acc (List.getElem?_eq_getElem hlt) pi
    have keepD : ∀ {Fa : Hp} {ρa : List Addr} {Ha : Hp} {Fb : Hp} {ρb : List Addr} {Hb : Hp} {o : HO}, Go Fa ρa Ha Fb ρb Hb → Fa D = none → D ∉ ρa → Ha D = some o → Fb D = none ∧ D ∉ ρb ∧ Hb D = some o := by
      intro Fa ρa Ha Fb ρb Hb o gg a1 a2 a3
      refine ⟨?_, fun z => ?_, gg.fr D _ a3 a2⟩
      · cases e : Fb D with
        | none => rfl
        | some o =>
          rcases gg.nf D (by rw [e]; intro z; cases z) with z | z | z
          · exact absurd a1 z
          · rw [a3] at z
            cases z
          · exact absurd z a2
      · rcases gg.nw D z with y | y
        · exact a2 y
        · rw [a3] at y
          cases y
    refine .inr ⟨hgo, fun H' => ∃ F' ρ' μ' acc accV, Go F1 ρ1 H1 F' ρ' H' ∧ Ok K F' ρ' H' μ' ∧ F' D = none ∧ D ∉ ρ' ∧ H' D = some (DnO D accV) ∧ KeysD K F' accV ∧ Paired (NW K F' ρ') accV acc ∧ acc.length ≤ i + 1 ∧ P (i + 1) μ' acc,
      fun H' z => ⟨ws.length - (i + 1), by omega, rfl, hlt, z⟩, fun x H3 y => ?_⟩
    obtain ⟨F3, ρ3, g3, k3, v3⟩ := hy x H3 y
    have s3 : Sl K F3 ρ3 (wipe σ vs) (wipeD δ vs) := sl_wipe (sl_go g3 (sl_go gi (sl_go g1 s))) vs
    have hmono := tg x (wipe σ vs) H3 (fun σ4 H4 => ∃ F4 ρ4, Go F3 ρ3 H3 F4 ρ4 H4 ∧ Ok K F4 ρ4 H4 μ2 ∧ Sl K F4 ρ4 σ4 δ2) (hg F3 ρ3 H3 (wipe σ vs) x _ k3 s3 v3 fun σ4 F4 ρ4 H4 g4 k4 s4 => ⟨F4, ρ4, g4, k4, s4⟩)
    have idem : wipe (wipe σ vs) vs = wipe σ vs := wipe_idem vs vs σ fun _ h => h
    refine mg _ _ _ _ _ (fun σ4 H4 z => ?_) hmono
    obtain ⟨⟨F4, ρ4, g4, k4, s4⟩, ew⟩ := z
    refine ⟨ew.trans idem, ?_⟩
    refine ht F4 ρ4 H4 σ4 _ k4 s4 fun F5 ρ5 H5 g5 k5 => ?_
    have g35 := (g3.trans g4).trans g5
    cases b with
    | true =>
      refine iteT ?_
      obtain ⟨kk, y, μ4, μ5, hd, he, hv, hP⟩ := hT rfl
      refine he F5 ρ5 H5 σ4 _ k5 (sl_go g5 s4) fun v6 F6 ρ6 H6 g6 k6 e6 => ?_
      refine hv F6 ρ6 H6 σ4 _ k6 (sl_go g6 (sl_go g5 s4)) fun v7 F7 ρ7 H7 g7 k7 e7 => ?_
      have gg := (g35.trans g6).trans g7
      obtain ⟨d1, d2, d3⟩ := keepD gg fD nD eD
      have e6' : Dp K F7 v6 (NestedKey.data (.tup kk)) := dp_ex g7.ex e6
      obtain ⟨b, rfl⟩ := nk_ref e6'
      have kD7 : KeysD K F7 accV := keysD_ex gg.ex kD
      have hl := puD_len acc (.tup kk) y
      refine ⟨_, .inr ⟨accV, .tup kk, b, d3, rfl, dp_ex k7.ex e6', hd, fun p hp => ⟨dp_ex k7.ex (kD7 p hp).1, (kD7 p hp).2⟩, by rw [pr_len pr]; omega, rfl⟩,
        F7, ρ7, μ5, puD acc (.tup kk) y, _, (gi.trans gg).other hD, k7.other d1 d2, d1, d2, upd_same, keysD_put kD7 e6' hd, nw_put (nws_go gg pr) _ b e7, by omega, hP⟩
    | false =>
      refine iteF ?_
      obtain ⟨d1, d2, d3⟩ := keepD g35 fD nD eD
      exact ⟨F5, ρ5, μ3, acc, accV, gi.trans g35, k5, d1, d2, d3, keysD_ex g35.ex kD, nws_go g35 pr, by omega, hF rfl⟩
  · have e : i = ws.length := by omega
    subst e
    exact .inl ⟨r1.stop Fi ρi Hi μi gi ki (hk _ μi acc pi), q D Fi ρi Hi μi acc accV hHD (g1.trans gi) ki fD nD eD kD pr pi⟩
theorem ev_dcN {xs : List (NK × W)} (hi : EvI K wi δ μ ws Kp μ1) (mg : Mg g) (tg : Tg g vs) (hz : ws.length ≤ sizeLine) (P : Nat → Mu → List (NK × W) → Prop) (h0 : P 0 μ1 []) (hk : ∀ i μ acc, P i μ acc → Kp μ)
    (hs : ∀ (i : Nat) (w : W) (μi : Mu) (acc : List (NK × W)), ws[i]? = some w → P i μi acc → ∃ δ2 μ2 b μ3, EvG K g w (wipeD δ vs) μi δ2 μ2 ∧ EvT K tt δ2 μ2 b μ3 ∧
      (b = true → ∃ kk y μ4 μ5, NestedKey.depth (.tup kk) ≤ 8 ∧ Ev K tk δ2 μ3 (.d (NestedKey.data (.tup kk))) μ4 ∧ Ev K tv δ2 μ4 y μ5 ∧ P (i + 1) μ5 (puD acc (.tup kk) y)) ∧ (b = false → P (i + 1) μ3 acc))
    (hd : ∀ μi acc, P ws.length μi acc → μi = μ' ∧ acc = xs) : Ev K (tDcN K dn0 wi g tt tk tv vs) δ μ (.p μ'.length) (μ' ++ [.dn xs]) := fun F ρ H σ Q k s q =>
  dcn_core hi mg tg hz P h0 hk hs k s fun D F' ρ' H' μi acc accV hH g' k' fD nD eD kD pr p => by
    obtain ⟨e1, e2⟩ := hd μi acc p
    subst e1
    subst e2
    have at_ : ∀ (v : V) (w : W), VW K F' ρ' v w → VW K F' (ρ' ++ [D]) v w := fun v w q => by
      cases w with
      | d x => exact q
      | p n =>
        obtain ⟨b, e, z⟩ := q
        exact ⟨b, by rw [List.getElem?_append_left (List.getElem?_eq_some_iff.mp e).1]; exact e, z⟩
      | r u => exact q
    exact q _ _ _ _ (g'.enter hH) (k'.enter fD nD eD ⟨fD, accV, eD, kD, pr_mono (fun _ _ z => ⟨z.1, at_ _ _ z.2⟩) pr⟩) ⟨D, by rw [← k'.len]; simp, rfl⟩
/-- .. where no store changes: all items, keys kf, values f -/
theorem ev_dcM {kf : W → List NK} {f : W → W} (hi : EvI K wi δ μ ws Kp μ1) (mg : Mg g) (tg : Tg g vs) (hz : ws.length ≤ sizeLine) (hk : Kp μ1)
    (hs : ∀ (i : Nat) (w : W), ws[i]? = some w → ∃ δ2, EvG K g w (wipeD δ vs) μ1 δ2 μ1 ∧ EvT K tt δ2 μ1 true μ1 ∧ NestedKey.depth (.tup (kf w)) ≤ 8 ∧ Ev K tk δ2 μ1 (.d (NestedKey.data (.tup (kf w)))) μ1 ∧ Ev K tv δ2 μ1 (f w) μ1) :
    Ev K (tDcN K dn0 wi g tt tk tv vs) δ μ (.p μ1.length) (μ1 ++ [.dn (mkD (ws.map fun w => (NestedKey.tup (kf w), f w)))]) :=
  ev_dcN hi mg tg hz (fun i μi acc => μi = μ1 ∧ acc = mkD ((ws.take i).map fun w => (NestedKey.tup (kf w), f w))) ⟨rfl, rfl⟩ (fun i μi acc z => z.1 ▸ hk) (fun i w μi acc hw z => by
    obtain ⟨rfl, rfl⟩ := z
    obtain ⟨δ2, a, b, c, d, e⟩ := hs i w hw
    refine ⟨δ2, _, true, _, a, b, fun _ => ⟨kf w, f w, _, _, c, d, e, rfl, ?_⟩, fun h => (nomatch h)⟩
    rw [take_more hw, List.map_append]
    unfold mkD
    rw [List.foldl_append]
    rfl) fun μi acc z => by
    obtain ⟨rfl, rfl⟩ := z
    rw [List.take_length]
    exact ⟨rfl, rfl⟩
end
end DL

set_option Elab.async false
set_option linter.all false
set_option maxRecDepth 100000
set_option maxHeartbeats 2000000
/-! DM3: dict(pairs), keys that are tuples. -/
namespace DL
open PySem PySem.Spec PyProof.Rows L2
variable [Wd]
def putAllN (acc ps : NKs) : NKs := ps.foldl (fun acc p => putN acc p.1 p.2.1 p.2.2) acc
theorem NKV.putAllN : ∀ {ps : NKs} {vs : List (NK × Addr × Value)} {acc : NKs} {xs : List (NK × Addr × Value)}, NKV ps vs → NKV acc xs → NKV (DL.putAllN acc ps) (storedAllH xs vs)
  | _, _, _, _, .nil, h => h
  | p :: ps, q :: vs, _, _, .cons ⟨e1, e2, e3⟩ t, h => by
    show NKV (DL.putAllN (putN _ p.1 p.2.1 p.2.2) ps) (storedAllH (storedH _ q.1 q.2.1 q.2.2) vs)
    refine NKV.putAllN t ?_
    rw [← e1, ← e2]
    exact h.put _ _ e3
theorem putAllN_len : ∀ (ps acc : NKs), (putAllN acc ps).length ≤ acc.length + ps.length
  | [], _ => Nat.le_refl _
  | p :: ps, acc => by
    have h1 := putAllN_len ps (putN acc p.1 p.2.1 p.2.2)
    have h2 := length_putN acc p.1 p.2.1 p.2.2
    show (putAllN (putN acc p.1 p.2.1 p.2.2) ps).length ≤ _
    rw [List.length_cons]
    omega
def PairV (K : PySem.W.Frag) (H : Hp) (x : V) (p : NK × Addr × V) : Prop := ∃ t, x = .ref t ∧ SqT K H t [.ref p.2.1, p.2.2]
def rDictP [Wd] (K : PySem.W.Frag) : List V → Hp → VK → Prop := fun vs H Q => ∃ (a : Addr) (xs : List V) (ps : NKs), vs = [.ref a] ∧ SqL K H a xs ∧ Paired (PairV K H) xs ps ∧ KeysD K H ps ∧
  ∀ p, H p = none → Q (.ref p) (upd H p (DnO p (putAllN [] ps)))
def refV : Option V → Addr
  | some (.ref t) => t
  | _ => 0
theorem cr_dictP {X : Cx} (hW : WdOk X) (hc : X.calm = true) (hu : X.A.units + 64 < cLine) : CallR X (.type "dict") (rDictP X.K) := by
  intro pins s σ H vs us Q I r h
  obtain ⟨a, xs, ps, rfl, hs, pr, hk, q⟩ := h
  obtain ⟨its, rv, hl, hz⟩ := I.list hs
  obtain ⟨u, rfl, ru⟩ := vals1 r
  obtain rfl : u = Value.ref a := ru
  -- the pairs, as they stand
  obtain ⟨ws, hws, hat⟩ : ∃ ws : List (NK × Addr × Value), NKV ps ws ∧ ∀ (j : Nat) (w : NK × Addr × Value), ws[j]? = some w → its[j]? = some (.ref (refV xs[j]?)) ∧ PySem.PairAt s.heap (refV xs[j]?) (.ref w.2.1) w.2.2 := by
    clear q hs hl hz hk
    have gen : ∀ {xs : List V} {ps : NKs} {its : List Value}, Paired (PairV X.K H) xs ps → Vals xs its → ∃ ws : List (NK × Addr × Value), NKV ps ws ∧ ∀ (j : Nat) (w : NK × Addr × Value), ws[j]? = some w → its[j]? = some (.ref (refV xs[j]?)) ∧ PySem.PairAt s.heap (refV xs[j]?) (.ref w.2.1) w.2.2 := by
      intro xs ps its pr
      induction pr generalizing its with
      | nil => intro rv; exact ⟨[], .nil, fun j w e => by simp at e⟩
      | @cons x p xs ps d t ih =>
        intro rv
        cases rv with
        | cons r1 r2 =>
          obtain ⟨ws, h1, h2⟩ := ih r2
          obtain ⟨t0, rfl, hq⟩ := d
          obtain ⟨us, rvs, ⟨o, e, hcl, n, hd⟩, _⟩ := I.tuple hq
          obtain ⟨u1, u2, rfl, q1, q2⟩ := vals2 rvs
          cases q1
          cases r1
          refine ⟨(p.1, p.2.1, u2) :: ws, .cons ⟨rfl, rfl, q2⟩ h1, fun j w e => ?_⟩
          cases j with
          | zero =>
            simp at e
            subst e
            exact ⟨rfl, .inl ⟨o, e, hcl, n, hd⟩⟩
          | succ j => exact h2 j w (by simpa using e)
    exact gen pr rv
  have hlen : ws.length = its.length := by rw [← hws.len, ← Paired.length pr, rv.length]
  have hzl : ps.length ≤ sizeLine := by rw [← Paired.length pr]; exact hz
  have Parg := PySem.PairArg.list (prog := X.prog) (w := X.w) a its.toArray (fun j => refV xs[j]?) (ws.map fun w => (Value.ref w.2.1, w.2.2))
  obtain ⟨o, ho, hco, n, hdo⟩ := hl.isList
  have key : ∀ {h' : Heap} {tk : Nat}, Inv X pins σ H { s with heap := h', toks := tk } → ∀ x ∈ ws, (nestedKind X.prog X.w).is h' x.1 x.2.1 := fun {h' tk} I' x hx => by
    obtain ⟨i, hi⟩ := List.mem_iff_getElem?.mp hx
    obtain ⟨p, hp, e1, e2, _⟩ := pr_get hws hi
    obtain ⟨d1, d2⟩ := hk p (List.mem_of_getElem? hp)
    exact ⟨by rw [← e1, ← e2]; exact nested_is I' p.1 d1 rfl, by rw [← e1]; exact d2⟩
  refine PySem.call_dict_pairsH (knd := nestedKind X.prog X.w) (ps := ws) Parg (I.ok.hd hc) (show X.A.in1.in1.units + 8 < cLine from ?_) ⟨?_, ?_⟩ ⟨by rw [List.length_map], ?_⟩ (fun h' hk' => ?_) (by rw [List.length_map, ← hws.len]; exact hzl) fun h' tk hd hk' => ?_
  · have : X.A.in1.in1.units = X.A.units + 1 + 1 := rfl
    omega
  · exact hl
  · refine ⟨by rw [List.size_toArray, List.length_map, hlen], fun j k v e => ?_⟩
    rw [List.getElem?_map] at e
    obtain ⟨w, hw, ew⟩ := Option.map_eq_some_iff.mp e
    cases ew
    have := hat j w hw
    exact ⟨by simpa using this.1, this.2⟩
  · intro i k v e
    have e : (ws.map fun w => (Value.ref w.2.1, w.2.2))[i]? = some (k, v) := e
    rw [List.getElem?_map] at e
    obtain ⟨w, hw, ew⟩ := Option.map_eq_some_iff.mp e
    cases ew
    exact ⟨w.1, w.2.1, hw, rfl⟩
  · exact key (I.kept (t' := s.toks) fun b o e => hk' b o (Nat.ne_of_lt (Heap.lt_size e)) (fun z => nomatch z) e)
  · have I1 : Inv X pins σ H { s with heap := h', toks := tk } := I.kept fun b o e => hk' b o (fun z => nomatch z) e
    have hm : (s.heap.objs.size == sysModules) = false := beq_eq_false_iff_ne.mpr (Nat.ne_of_gt I.big)
    have hl2 := putAllN_len ps []
    refine ⟨.ref s.heap.objs.size, upd H s.heap.objs.size (DnO s.heap.objs.size (putAllN [] ps)), I.laid (t' := tk) (fun b o e => hk' b o (fun z => nomatch z) e) (Nat.le_refl _) (dn_new hW (by simp at hl2; omega) hm (NKV.putAllN hws .nil) hd), rfl, q _ (I.hok.fresh (Nat.le_refl _))⟩
/-! ### at the layer -/
section
variable {K : PySem.W.Frag} {F F' H H' : Hp} {ρ ρ' : List Addr} {μ μ1 μ2 : Mu} {w : W}
theorem vw_more {D : Addr} {v : V} : ∀ {w : W}, VW K F ρ v w → VW K F (ρ ++ [D]) v w
  | .d x, h => h
  | .p n, ⟨b, e, z⟩ => ⟨b, by rw [List.getElem?_append_left (List.getElem?_eq_some_iff.mp e).1]; exact e, z⟩
  | .r u, h => h
theorem nw_putAll : ∀ {ps : NKs} {qs : List (NK × W)} {acc : NKs} {ks : List (NK × W)}, Paired (NW K F ρ) ps qs → Paired (NW K F ρ) acc ks → Paired (NW K F ρ) (putAllN acc ps) (qs.foldl (fun acc p => puD acc p.1 p.2) ks)
  | _, _, _, _, .nil, h => h
  | p :: ps, q :: qs, _, _, .cons ⟨e1, e2⟩ t, h => by
    show Paired (NW K F ρ) (putAllN (putN _ p.1 p.2.1 p.2.2) ps) (qs.foldl _ (puD _ q.1 q.2))
    refine nw_putAll t ?_
    rw [← e1]
    exact nw_put h _ _ e2
theorem keysD_putAll : ∀ {ps acc : NKs}, KeysD K F ps → KeysD K F acc → KeysD K F (putAllN acc ps)
  | [], _, _, h => h
  | p :: ps, acc, hp, h => by
    show KeysD K F (putAllN (putN acc p.1 p.2.1 p.2.2) ps)
    have h1 := hp p List.mem_cons_self
    exact keysD_putAll (fun x hx => hp x (List.mem_cons_of_mem _ hx)) (keysD_put h h1.1 h1.2)
theorem rc_dictN {ps : List (List NK × PyData)} (h : Its μ w (ps.map fun p => .d (.tuple [NestedKey.data (.tup p.1), p.2]))) (hd : ∀ p ∈ ps, NestedKey.depth (.tup p.1) ≤ 8) :
    RC K (rDictP K) [w] μ (.p μ.length) (μ ++ [.dn (mkD (ps.map fun p => (NestedKey.tup p.1, .d p.2)))]) := fun F ρ H vs Q k pr q => by
  cases pr with
  | cons a t =>
    cases t
    obtain ⟨p, xs, rfl, hs, prx⟩ := its_get k a h
    obtain ⟨qs, h1, h2, h3⟩ : ∃ qs : NKs, Paired (PairV K F) xs qs ∧ KeysD K F qs ∧ Paired (NW K F ρ) qs (ps.map fun p => (NestedKey.tup p.1, .d p.2)) := by
      have gen : ∀ {ps : List (List NK × PyData)} {xs : List V}, (∀ p ∈ ps, NestedKey.depth (.tup p.1) ≤ 8) → Paired (VW K F ρ) xs (ps.map fun p => .d (.tuple [NestedKey.data (.tup p.1), p.2])) →
          ∃ qs : NKs, Paired (PairV K F) xs qs ∧ KeysD K F qs ∧ Paired (NW K F ρ) qs (ps.map fun p => (NestedKey.tup p.1, .d p.2)) := by
        intro ps
        induction ps with
        | nil =>
          intro xs _ pr
          cases pr
          exact ⟨[], .nil, (fun _ h => nomatch h), .nil⟩
        | cons p ps ih =>
          intro xs hd pr
          cases pr with
          | cons a t =>
            obtain ⟨qs, h1, h2, h3⟩ := ih (fun x hx => hd x (List.mem_cons_of_mem _ hx)) t
            obtain ⟨c, vs, rfl, hq, pv⟩ := vw_t a
            cases pv with
            | cons d1 pv =>
              cases pv with
              | cons d2 pv =>
                cases pv
                obtain ⟨b, rfl⟩ := nk_ref d1
                refine ⟨(.tup p.1, b, _) :: qs, .cons ⟨c, rfl, hq⟩ h1, fun x hx => ?_, .cons ⟨rfl, d2⟩ h3⟩
                rcases List.mem_cons.mp hx with rfl | hx
                · exact ⟨d1, hd p List.mem_cons_self⟩
                · exact h2 x hx
      exact gen hd prx
    have exH := k.ex
    refine ⟨p, xs, qs, rfl, hs, pr_mono (fun x y ⟨t, e, z⟩ => ⟨t, e, ex_t exH z⟩) h1, keysD_ex exH h2, fun D hD => ?_⟩
    obtain ⟨k2, g2, e2⟩ := k.push (o := DnO D (putAllN [] qs)) (c := .dn (mkD (ps.map fun p => (NestedKey.tup p.1, .d p.2)))) hD
      ⟨(k.free hD).1, _, upd_same, keysD_putAll h2 (fun _ h => nomatch h), nw_putAll (pr_mono (fun _ _ z => ⟨z.1, vw_more z.2⟩) h3) .nil⟩
    exact q _ _ _ _ g2 k2 ⟨D, e2, rfl⟩
end
end DL

set_option Elab.async false
set_option linter.all false
set_option maxRecDepth 100000
set_option maxHeartbeats 2000000
/-! DM4: operations by values, further: in of tuples, order of data and texts, repr of bools, walks over texts. -/
namespace DL
open PySem PySem.Spec PyProof.Rows L2
variable [Wd]
section
variable {X : Cx}
def rInDT (K : PySem.W.Frag) : R2 := fun x y H Q => ∃ d ds, Dp K H x d ∧ Dp K H y (.tuple ds) ∧ SeqAt.shaped d = true ∧ SeqAt.shaped (.tuple ds) = true ∧ Q (.bl (ds.any fun z => PyData.eqv z d)) H
def rNiDT (K : PySem.W.Frag) : R2 := fun x y H Q => ∃ d ds, Dp K H x d ∧ Dp K H y (.tuple ds) ∧ SeqAt.shaped d = true ∧ SeqAt.shaped (.tuple ds) = true ∧ Q (.bl (!ds.any fun z => PyData.eqv z d)) H
theorem op_inDT (hu : X.A.units + 65 < cLine) : OpR X (compareOp .In) (rInDT X.K) := by
  intro pins s σ H x y v u Q I rx ry h
  obtain ⟨d, ds, hd, he, sd, se, q⟩ := h
  obtain ⟨as, r1⟩ := Dp.reads I d x v hd rx
  obtain ⟨bs, r2⟩ := Dp.reads I (.tuple ds) y u he ry
  exact SeqAt.in_tuple_reads r2 r1 (SeqAt.canLay_of_shaped se) (SeqAt.canLay_of_shaped sd) (room_in_shaped sd hu) ⟨.bl _, H, I, rfl, q⟩
theorem op_niDT (hu : X.A.units + 65 < cLine) : OpR X (compareOp .NotIn) (rNiDT X.K) := by
  intro pins s σ H x y v u Q I rx ry h
  obtain ⟨d, ds, hd, he, sd, se, q⟩ := h
  obtain ⟨as, r1⟩ := Dp.reads I d x v hd rx
  obtain ⟨bs, r2⟩ := Dp.reads I (.tuple ds) y u he ry
  exact SeqAt.notIn_tuple_reads r2 r1 (SeqAt.canLay_of_shaped se) (SeqAt.canLay_of_shaped sd) (room_in_shaped sd hu) ⟨.bl _, H, I, rfl, q⟩
/-- the order of data -/
def rCmpD (K : PySem.W.Frag) (f : PyData → PyData → Bool) : R2 := fun x y H Q => ∃ a b, Dp K H x a ∧ Dp K H y b ∧ PySem.W.alike a b = true ∧ a ≠ .none ∧ a.depth ≤ 32 ∧ Q (.bl (f a b)) H
open PySem.W (dataLt)
theorem cmp_room {a b : PyData} (hu : X.A.units + 64 < cLine) (h : a.depth ≤ 32) : X.A.units + min a.depth b.depth < cLine := by
  have := Nat.min_le_left a.depth b.depth
  omega
theorem op_ltD (hu : X.A.units + 64 < cLine) : OpR X (compareOp .Lt) (rCmpD X.K dataLt) := by
  intro pins s σ H x y v u Q I rx ry h
  obtain ⟨a, b, ha, hb, al, hn, hd, q⟩ := h
  obtain ⟨as, r1⟩ := Dp.reads I a x v ha rx
  obtain ⟨bs, r2⟩ := Dp.reads I b y u hb ry
  exact PySem.W.lt_data r1 r2 al hn (cmp_room hu hd) ⟨.bl _, H, I, rfl, q⟩
theorem op_gtD (hu : X.A.units + 64 < cLine) : OpR X (compareOp .Gt) (rCmpD X.K fun a b => dataLt b a) := by
  intro pins s σ H x y v u Q I rx ry h
  obtain ⟨a, b, ha, hb, al, hn, hd, q⟩ := h
  obtain ⟨as, r1⟩ := Dp.reads I a x v ha rx
  obtain ⟨bs, r2⟩ := Dp.reads I b y u hb ry
  exact PySem.W.gt_data r1 r2 al hn (cmp_room hu hd) ⟨.bl _, H, I, rfl, q⟩
theorem op_leD (hu : X.A.units + 64 < cLine) : OpR X (compareOp .LtE) (rCmpD X.K fun a b => !dataLt b a) := by
  intro pins s σ H x y v u Q I rx ry h
  obtain ⟨a, b, ha, hb, al, hn, hd, q⟩ := h
  obtain ⟨as, r1⟩ := Dp.reads I a x v ha rx
  obtain ⟨bs, r2⟩ := Dp.reads I b y u hb ry
  exact PySem.W.le_data r1 r2 al hn (cmp_room hu hd) ⟨.bl _, H, I, rfl, q⟩
theorem op_geD (hu : X.A.units + 64 < cLine) : OpR X (compareOp .GtE) (rCmpD X.K fun a b => !dataLt a b) := by
  intro pins s σ H x y v u Q I rx ry h
  obtain ⟨a, b, ha, hb, al, hn, hd, q⟩ := h
  obtain ⟨as, r1⟩ := Dp.reads I a x v ha rx
  obtain ⟨bs, r2⟩ := Dp.reads I b y u hb ry
  exact PySem.W.ge_data r1 r2 al hn (cmp_room hu hd) ⟨.bl _, H, I, rfl, q⟩
/-- repr: a bool, a number -/
def rRepr : List V → Hp → VK → Prop := fun xs H Q => (∃ b, xs = [.bl b] ∧ Q (.str (if b then "True" else "False")) H) ∨ ∃ i, xs = [.int i] ∧ i.natAbs.log2 < 1920 ∧ Q (.str (toString i)) H
theorem call_reprU : CallR X (.builtin "repr") rRepr := by
  intro pins s σ H xs us Q I r h
  rcases h with ⟨b, rfl, q⟩ | ⟨i, rfl, hz, q⟩
  · obtain ⟨u, rfl, ru⟩ := vals1 r
    cases ru
    exact PySem.P.repr_of_bool ⟨.str _, H, I.tok _, ⟨_, rfl⟩, q⟩
  · obtain ⟨u, rfl, t, rfl⟩ := vals1 r
    exact PySem.P.repr_of_int hz ⟨.str _, H, I.tok _, ⟨_, rfl⟩, q⟩
def rOrd : List V → Hp → VK → Prop := fun xs H Q => ∃ x, xs = [.str x] ∧ x.length = 1 ∧ Q (.int (x.cps.getD 0 0 : Nat)) H
theorem call_ordU : CallR X (.builtin "ord") rOrd := call_ord
def rStrU : List V → Hp → VK → Prop := fun xs H Q => (∃ i, xs = [.int i] ∧ i.natAbs.log2 < 1920 ∧ Q (.str (toString i)) H) ∨ ∃ a, xs = [.str a] ∧ Q (.str a) H
theorem call_strU : CallR X (.type "str") rStrU := by
  intro pins s σ H xs us Q I r h
  rcases h with h | h
  · exact call_str_int pins s σ H xs us Q I r h
  · exact SkE.call_str_str pins s σ H xs us Q I r h
end
end DL

set_option Elab.async false
set_option linter.all false
set_option maxRecDepth 100000
set_option maxHeartbeats 2000000
/-! DM5: the readings that take several kinds at once, and what they are worth at the layer. -/
namespace DL
open PySem PySem.Spec PyProof.Rows L2
variable [Wd]
/-! ### subscripts, in, order, +, * -/
def rIxU [Wd] (K : PySem.W.Frag) : R2 := fun x y H Q => rIx K x y H Q ∨ rDIx K x y H Q
theorem ix_U {X : Cx} (hW : WdOk X) (hu : X.A.units + 64 < cLine) : IxR X (rIxU X.K) := IxR.or ix_seq (ix_dictN hW (by omega))
def rInU [Wd] (K : PySem.W.Frag) : R2 := r2or (rDIn K) (r2or rInS (r2or (rInD K) (rInDT K)))
def rNiU [Wd] (K : PySem.W.Frag) : R2 := r2or (rDNi K) (r2or rNotInS (r2or (rNotInD K) (rNiDT K)))
theorem op_inU {X : Cx} (hW : WdOk X) (hu : X.A.units + 65 < cLine) : OpR X (compareOp .In) (rInU X.K) := op_or2 (op_inDN hW (by omega)) (op_or2 op_inS (op_or2 (op_inD hu) (op_inDT hu)))
theorem op_niU {X : Cx} (hW : WdOk X) (hu : X.A.units + 65 < cLine) : OpR X (compareOp .NotIn) (rNiU X.K) := op_or2 (op_niDN hW (by omega)) (op_or2 op_notInS (op_or2 (op_notInD hu) (op_niDT hu)))
def rLtU (K : PySem.W.Frag) : R2 := r2or rLtI (rCmpD K PySem.W.dataLt)
def rGtU (K : PySem.W.Frag) : R2 := r2or rGtI (rCmpD K fun a b => PySem.W.dataLt b a)
def rLeU (K : PySem.W.Frag) : R2 := r2or rLeI (rCmpD K fun a b => !PySem.W.dataLt b a)
def rGeU (K : PySem.W.Frag) : R2 := r2or rGeI (rCmpD K fun a b => !PySem.W.dataLt a b)
theorem op_ltV {X : Cx} (hu : X.A.units + 64 < cLine) : OpR X (compareOp .Lt) (rLtU X.K) := op_or2 op_lt (op_ltD hu)
theorem op_gtV {X : Cx} (hu : X.A.units + 64 < cLine) : OpR X (compareOp .Gt) (rGtU X.K) := op_or2 op_gt (op_gtD hu)
theorem op_leV {X : Cx} (hu : X.A.units + 64 < cLine) : OpR X (compareOp .LtE) (rLeU X.K) := op_or2 op_le (op_leD hu)
theorem op_geV {X : Cx} (hu : X.A.units + 64 < cLine) : OpR X (compareOp .GtE) (rGeU X.K) := op_or2 op_ge (op_geD hu)
def rAddV (K : PySem.W.Frag) : R2 := r2or (rAddU K) rStrCat
theorem op_addV {X : Cx} : OpR X (binaryOp .Add) (rAddV X.K) := op_or2 op_addU op_add_str
def repS (x : Str) (n : Int) : Str := ⟨(List.replicate n.toNat x.cps).foldl (· ++ ·) #[]⟩
def rMulS : R2 := fun x y H Q => ∃ (z : Str) (n : Int), x = .str z ∧ y = .int n ∧ 2 ≤ n ∧ n ≤ 1000 ∧ 1 ≤ z.length ∧ z.length ≤ 1000 ∧ Q (.str (repS z n)) H
theorem op_mulS {X : Cx} : OpR X (binaryOp .Mult) rMulS := by
  intro pins s σ H x y v u Q I rx ry h
  obtain ⟨z, n, rfl, rfl, h1, h2, h3, h4, q⟩ := h
  obtain ⟨t, rfl⟩ := rx
  obtain ⟨t', rfl⟩ := ry
  have hn1 : (n == 1) = false := beq_eq_false_iff_ne.mpr (by omega)
  have hz0 : (z.length == 0) = false := beq_eq_false_iff_ne.mpr (by omega)
  have hc : (n == 1 || z.length == 0) = false := by rw [hn1, hz0]; rfl
  have hlong : Builtin.Str.tooLong (z.length * n.toNat) = false := by
    have hb : z.length * n.toNat ≤ 1000 * 1000 := Nat.mul_le_mul h4 (by omega)
    refine decide_eq_false ?_
    have := sizeLine_eq
    omega
  refine PySem.P.mul_str (by rw [decide_eq_false (by omega), decide_eq_false (by omega)]; rfl) (fun _ _ => ?_) (fun _ _ => ?_) ?_
  · intro hgt
    have : (1000 : Int) ≤ (2 ^ 63 - 1) / n := by
      rw [Int.le_ediv_iff_mul_le (by omega)]
      omega
    omega
  · exact hlong
  · rw [if_neg (by omega), if_neg (by rw [hc]; exact Bool.false_ne_true)]
    exact ⟨PySem.fits_reps hlong, .str (repS z n), H, I.tok _, ⟨_, rfl⟩, q⟩
def rMulV (K : PySem.W.Frag) : R2 := r2or (rMulU K) rMulS
theorem op_mulV {X : Cx} : OpR X (binaryOp .Mult) (rMulV X.K) := op_or2 op_mulU op_mulS
end DL

set_option Elab.async false
set_option linter.all false
set_option maxRecDepth 100000
set_option maxHeartbeats 2000000
/-! DM6: the joined readings at the layer; walks over texts. -/
namespace DL
open PySem PySem.Spec PyProof.Rows L2
variable [Wd]
def rv_or1 {K : PySem.W.Frag} {r s : R2} {x y z : W} {μ μ1 : Mu} (h : RV K r x y μ z μ1) : RV K (fun x y H Q => r x y H Q ∨ s x y H Q) x y μ z μ1 := fun F ρ H v u Q k a b q => .inl (h F ρ H v u Q k a b q)
def rv_or2 {K : PySem.W.Frag} {r s : R2} {x y z : W} {μ μ1 : Mu} (h : RV K s x y μ z μ1) : RV K (fun x y H Q => r x y H Q ∨ s x y H Q) x y μ z μ1 := fun F ρ H v u Q k a b q => .inr (h F ρ H v u Q k a b q)
section
variable {K : PySem.W.Frag} {F F' H H' : Hp} {ρ ρ' : List Addr} {μ μ1 μ2 : Mu} {v y : V} {w x z : W} {δ : Dl} {ta tb te : TE}
theorem rv_ixQ {xs : List W} {i : Int} (h : Seq μ x xs) (e : atW xs i = some z) : RV K (rIxU K) x (.i i) μ z μ := rv_or1 (rv_ix h e)
theorem rv_ixC {s : Str} {i : Int} {c : Nat} (hl : s.length ≤ sizeLine) (e : atI s.cps.toList i = some c) : RV K (rIxU K) (.s s) (.i i) μ (.s ⟨#[c]⟩) μ := rv_or1 (rv_ixS hl e)
theorem rv_ixK {n : Nat} {ks : List (Key × W)} {k : Key} (e : μ[n]? = some (.dk ks)) (l : lkD ks k = some w) : RV K (rIxU K) (.p n) (kW k) μ w μ := rv_or2 (rv_dixK e l)
theorem rv_ixN {n : Nat} {ks : List (NK × W)} {kk : List NK} (e : μ[n]? = some (.dn ks)) (hd : NestedKey.depth (.tup kk) ≤ 8) (l : lkD ks (.tup kk) = some w) : RV K (rIxU K) (.p n) (.d (NestedKey.data (.tup kk))) μ w μ := rv_or2 (rv_dixN e hd l)
/-! in -/
theorem rv_inK {n : Nat} {ks : List (Key × W)} {k : Key} (e : μ[n]? = some (.dk ks)) : RV K (rInU K) (kW k) (.p n) μ (.b (lkD ks k).isSome) μ := rv_l (rv_dinK e)
theorem rv_inN {n : Nat} {ks : List (NK × W)} {kk : List NK} (e : μ[n]? = some (.dn ks)) (hd : NestedKey.depth (.tup kk) ≤ 8) : RV K (rInU K) (.d (NestedKey.data (.tup kk))) (.p n) μ (.b (lkD ks (.tup kk)).isSome) μ := rv_l (rv_dinN e hd)
theorem rv_niK {n : Nat} {ks : List (Key × W)} {k : Key} (e : μ[n]? = some (.dk ks)) : RV K (rNiU K) (kW k) (.p n) μ (.b (!(lkD ks k).isSome)) μ := rv_l (rv_dniK e)
theorem rv_niN {n : Nat} {ks : List (NK × W)} {kk : List NK} (e : μ[n]? = some (.dn ks)) (hd : NestedKey.depth (.tup kk) ≤ 8) : RV K (rNiU K) (.d (NestedKey.data (.tup kk))) (.p n) μ (.b (!(lkD ks (.tup kk)).isSome)) μ := rv_l (rv_dniN e hd)
theorem rv_inC {c : Nat} {s : Str} : RV K (rInU K) (.s ⟨#[c]⟩) (.s s) μ (.b (decide (c ∈ s.cps.toList))) μ := rv_r (rv_l fun F ρ H v u Q k a b q => ⟨c, s, vw_s a, vw_s b, q _ F ρ H Go.refl k (Dp.bl _)⟩)
theorem rv_niC {c : Nat} {s : Str} : RV K (rNiU K) (.s ⟨#[c]⟩) (.s s) μ (.b (!decide (c ∈ s.cps.toList))) μ := rv_r (rv_l fun F ρ H v u Q k a b q => ⟨c, s, vw_s a, vw_s b, q _ F ρ H Go.refl k (Dp.bl _)⟩)
theorem rv_inL {d : PyData} {ds : List PyData} (h : Its μ w (ds.map .d)) (h1 : SeqAt.shaped d = true) (h2 : SeqAt.shaped (.list ds) = true) : RV K (rInU K) (.d d) w μ (.b (ds.any fun z => PyData.eqv z d)) μ :=
  rv_r (rv_r (rv_l fun F ρ H v u Q k a b q => ⟨d, ds, dp_ex k.ex a, dp_cell k b h, h1, h2, q _ F ρ H Go.refl k (Dp.bl _)⟩))
theorem rv_niL {d : PyData} {ds : List PyData} (h : Its μ w (ds.map .d)) (h1 : SeqAt.shaped d = true) (h2 : SeqAt.shaped (.list ds) = true) : RV K (rNiU K) (.d d) w μ (.b (!ds.any fun z => PyData.eqv z d)) μ :=
  rv_r (rv_r (rv_l fun F ρ H v u Q k a b q => ⟨d, ds, dp_ex k.ex a, dp_cell k b h, h1, h2, q _ F ρ H Go.refl k (Dp.bl _)⟩))
theorem rv_inT {d : PyData} {ds : List PyData} (h1 : SeqAt.shaped d = true) (h2 : SeqAt.shaped (.tuple ds) = true) : RV K (rInU K) (.d d) (.d (.tuple ds)) μ (.b (ds.any fun z => PyData.eqv z d)) μ :=
  rv_r (rv_r (rv_r fun F ρ H v u Q k a b q => ⟨d, ds, dp_ex k.ex a, dp_ex k.ex b, h1, h2, q _ F ρ H Go.refl k (Dp.bl _)⟩))
theorem rv_niT {d : PyData} {ds : List PyData} (h1 : SeqAt.shaped d = true) (h2 : SeqAt.shaped (.tuple ds) = true) : RV K (rNiU K) (.d d) (.d (.tuple ds)) μ (.b (!ds.any fun z => PyData.eqv z d)) μ :=
  rv_r (rv_r (rv_r fun F ρ H v u Q k a b q => ⟨d, ds, dp_ex k.ex a, dp_ex k.ex b, h1, h2, q _ F ρ H Go.refl k (Dp.bl _)⟩))
/-! order -/
theorem rv_cmpD {f : PyData → PyData → Bool} {a b : PyData} (al : PySem.W.alike a b = true) (hn : a ≠ .none) (hd : a.depth ≤ 32) : RV K (rCmpD K f) (.d a) (.d b) μ (.b (f a b)) μ := fun F ρ H v u Q k h1 h2 q =>
  ⟨a, b, dp_ex k.ex h1, dp_ex k.ex h2, al, hn, hd, q _ F ρ H Go.refl k (Dp.bl _)⟩
theorem rv_ltV {i j : Int} : RV K (rLtU K) (.i i) (.i j) μ (.b (decide (i < j))) μ := rv_l rv_ltI
theorem rv_leV {i j : Int} : RV K (rLeU K) (.i i) (.i j) μ (.b (decide (i ≤ j))) μ := rv_l rv_leI
theorem rv_gtV {i j : Int} : RV K (rGtU K) (.i i) (.i j) μ (.b (decide (j < i))) μ := rv_l rv_gtI
theorem rv_geV {i j : Int} : RV K (rGeU K) (.i i) (.i j) μ (.b (decide (j ≤ i))) μ := rv_l rv_geI
theorem rv_ltD {a b : PyData} (al : PySem.W.alike a b = true) (hn : a ≠ .none) (hd : a.depth ≤ 32) : RV K (rLtU K) (.d a) (.d b) μ (.b (PySem.W.dataLt a b)) μ := rv_r (rv_cmpD al hn hd)
theorem rv_gtD {a b : PyData} (al : PySem.W.alike a b = true) (hn : a ≠ .none) (hd : a.depth ≤ 32) : RV K (rGtU K) (.d a) (.d b) μ (.b (PySem.W.dataLt b a)) μ := rv_r (rv_cmpD (f := fun a b => PySem.W.dataLt b a) al hn hd)
theorem rv_leD {a b : PyData} (al : PySem.W.alike a b = true) (hn : a ≠ .none) (hd : a.depth ≤ 32) : RV K (rLeU K) (.d a) (.d b) μ (.b (!PySem.W.dataLt b a)) μ := rv_r (rv_cmpD (f := fun a b => !PySem.W.dataLt b a) al hn hd)
theorem rv_geD {a b : PyData} (al : PySem.W.alike a b = true) (hn : a ≠ .none) (hd : a.depth ≤ 32) : RV K (rGeU K) (.d a) (.d b) μ (.b (!PySem.W.dataLt a b)) μ := rv_r (rv_cmpD (f := fun a b => !PySem.W.dataLt a b) al hn hd)
/-! + and * -/
theorem rv_addVI {i j : Int} : RV K (rAddV K) (.i i) (.i j) μ (.i (i + j)) μ := rv_l rv_addI
theorem rv_addVT {xs ys : List PyData} (hz : xs.length + ys.length ≤ sizeLine) : RV K (rAddV K) (.d (.tuple xs)) (.d (.tuple ys)) μ (.d (.tuple (xs ++ ys))) μ := rv_l (rv_addT hz)
theorem rv_addVS {a b : Str} (hz : a.length + b.length ≤ sizeLine) : RV K (rAddV K) (.s a) (.s b) μ (.s (a ++ b)) μ := rv_r fun F ρ H v u Q k h1 h2 q => ⟨a, b, vw_s h1, vw_s h2, hz, q _ F ρ H Go.refl k (Dp.str _)⟩
theorem rv_addVL {m n : Nat} {xs ys : List W} (e1 : μ[m]? = some (.lst xs)) (e2 : μ[n]? = some (.lst ys)) (hz : xs.length + ys.length ≤ sizeLine) : RV K (rAddV K) (.p m) (.p n) μ (.p μ.length) (μ ++ [.lst (xs ++ ys)]) :=
  rv_l (rv_r (rv_r fun F ρ H v u Q k h1 h2 q => by
    obtain ⟨a, ea, rfl⟩ := h1
    obtain ⟨b, eb, rfl⟩ := h2
    obtain ⟨c, ec, _, vs, hv, pr⟩ := k.at e1
    obtain ⟨d, ed, _, us, hu, pr2⟩ := k.at e2
    rw [ea] at ec
    rw [eb] at ed
    cases ec
    cases ed
    exact ⟨a, b, vs, us, rfl, rfl, hv, hu, by rw [pr_len pr, pr_len pr2]; exact hz, fun p hp => ok_cel k (pr_app pr pr2) hp fun v F2 ρ2 H2 g2 k2 e => q v F2 ρ2 H2 g2 k2 e⟩))
theorem rv_mulVI {i j : Int} (h : CMul i j) : RV K (rMulV K) (.i i) (.i j) μ (.i (i * j)) μ := rv_l (rv_mulI h)
theorem rv_mulVT {xs : List PyData} {n : Int} (h0 : xs ≠ []) (h1 : 2 ≤ n) (h2 : n ≤ 1000) (h3 : xs.length ≤ 1000) : RV K (rMulV K) (.d (.tuple xs)) (.i n) μ (.d (.tuple (List.replicate n.toNat xs).flatten)) μ := rv_l (rv_mulT h0 h1 h2 h3)
theorem rv_mulVS {z : Str} {n : Int} (h1 : 2 ≤ n) (h2 : n ≤ 1000) (h3 : 1 ≤ z.length) (h4 : z.length ≤ 1000) : RV K (rMulV K) (.s z) (.i n) μ (.s (repS z n)) μ := rv_r fun F ρ H v u Q k a b q => ⟨z, n, vw_s a, vw_int b, h1, h2, h3, h4, q _ F ρ H Go.refl k (Dp.str _)⟩
/-! calls -/
theorem rc_reprB {b : Bool} : RC K rRepr [.b b] μ (.s (if b then "True" else "False")) μ := fun F ρ H vs Q k pr q => by
  cases pr with
  | cons a t => cases t; exact .inl ⟨b, by rw [vw_b a], q _ F ρ H Go.refl k (Dp.str _)⟩
theorem rc_ord {c : Nat} : RC K rOrd [.s ⟨#[c]⟩] μ (.i (c : Nat)) μ := fun F ρ H vs Q k pr q => by
  cases pr with
  | cons a t => cases t; exact ⟨⟨#[c]⟩, by rw [vw_s a], rfl, q _ F ρ H Go.refl k (Dp.int _)⟩
theorem rc_strI {i : Int} (h : i.natAbs.log2 < 1920) : RC K rStrU [.i i] μ (.s (toString i)) μ := fun F ρ H vs Q k pr q => by
  cases pr with
  | cons a t => cases t; exact .inl ⟨i, by rw [vw_int a], h, q _ F ρ H Go.refl k (Dp.str _)⟩
theorem rc_strS {i : Str} : RC K rStrU [.s i] μ (.s i) μ := fun F ρ H vs Q k pr q => by
  cases pr with
  | cons a t => cases t; exact .inr ⟨i, by rw [vw_s a], q _ F ρ H Go.refl k (Dp.str _)⟩
theorem tyv_str {s : Str} : ∀ (F : Hp) (ρ : List Addr) (H : Hp) (v : V), Ok K F ρ H μ → VW K F ρ v (.s s) → tyV K "str" v H := fun F ρ H v k a => by
  rw [vw_s a]
  rfl
theorem rm_popAt {n j : Nat} {xs : List W} {i : Int} (e : μ[n]? = some (.lst xs)) (h0 : 0 ≤ i) (hi : i.toNat = j) (h : xs[j]? = some w) (hz : xs.length < 2 ^ 62) : RM K rPopAt (.p n) [.i i] μ w (μ.set n (.lst (xs.eraseIdx j))) := fun F ρ H v vs Q k a b q => by
  obtain ⟨a, ea, rfl⟩ := a
  obtain ⟨c, ec, hF, us, hu, pr⟩ := k.at e
  rw [ea] at ec
  cases ec
  cases b with
  | cons b1 b2 =>
    cases b2
    have e1 := vw_int b1
    subst e1
    subst hi
    obtain ⟨y, hy, ry⟩ := pr_get pr h
    have hj := (List.getElem?_eq_some_iff.mp hy).1
    have hl := pr_len pr
    have pe : Paired (VW K F ρ) (us.eraseIdx i.toNat) (xs.eraseIdx i.toNat) := by
      have gen : ∀ {us : List V} {xs : List W} (j : Nat), Paired (VW K F ρ) us xs → Paired (VW K F ρ) (us.eraseIdx j) (xs.eraseIdx j) := by
        intro us xs j pr
        induction pr generalizing j with
        | nil => exact .nil
        | cons r t ih =>
          cases j with
          | zero => exact t
          | succ j => exact .cons r (ih j)
      exact gen _ pr
    obtain ⟨k3, g3⟩ := k.put (o := .lst (us.eraseIdx i.toNat)) (c := .lst (xs.eraseIdx i.toNat)) ea hF ⟨hF, _, upd_same, pe⟩
    refine ⟨a, us, i, i.toNat, y, rfl, rfl, hu, by omega, by omega, ?_, hy, q _ _ _ _ g3 k3 (vw_go g3 ry)⟩
    exact seqIndex_of h0 (by omega)
end
/-! ### walks over lists, tuples, texts -/
def iSeqW (K : PySem.W.Frag) (tl : TE) : TI := fun σ H R => tl σ H fun x H1 => (∃ a, x = .ref a ∧ (((∃ xs, SqL K H1 a xs) ∧ R (Itl K a) H1) ∨ ((∃ xs, SqT K H1 a xs) ∧ R (Itt K a) H1))) ∨ ∃ s, x = .str s ∧ R (L2.Its s) H1
theorem pi_seqW {X : Cx} {tg l : Expr} {tl : TE} (hl : PE X l tl) : PI X tg l (iSeqW X.K tl) := by
  refine ⟨fun pins s σ H R I h => ?_⟩
  refine thn (hl.run pins s σ H _ I h) fun v s1 ⟨x, H1, I1, r1, q1⟩ => ?_
  rcases q1 with ⟨a, e, ⟨⟨xs, hq⟩, q⟩ | ⟨⟨xs, hq⟩, q⟩⟩ | ⟨z, e, q⟩
  · subst e
    cases r1
    obtain ⟨its, rv, p, hz⟩ := I1.list hq
    refine wpAny_pyIter_list p.isList ?_
    refine ⟨s1.heap.objs.size, [s1.heap.objs.size], _, _, H1, rfl, I1.kept (t' := s1.toks) fun b o e => Heap.get?_push_of_some _ e, turn_list a _, ⟨_, Heap.get?_push_size _ rfl, rfl, rfl⟩, fun b hb => ?_, q⟩
    have e : b = s1.heap.objs.size := by simpa using hb
    subst e
    exact I1.fpOk (Nat.le_refl _) (I1.hok.fresh (Nat.le_refl _))
  · subst e
    cases r1
    obtain ⟨its, rv, p, hz⟩ := I1.tuple hq
    refine wpAny_pyIter_tuple (show s1.heap.IsTuple a its.toArray from p) ?_
    refine ⟨s1.heap.objs.size, [s1.heap.objs.size], _, _, H1, rfl, I1.kept (t' := s1.toks) fun b o e => Heap.get?_push_of_some _ e, turn_tuple a _, ⟨_, Heap.get?_push_size _ rfl, rfl, rfl⟩, fun b hb => ?_, q⟩
    have e : b = s1.heap.objs.size := by simpa using hb
    subst e
    exact I1.fpOk (Nat.le_refl _) (I1.hok.fresh (Nat.le_refl _))
  · subst e
    obtain ⟨t, rfl⟩ := r1
    cases ha : z.cps.all (· < 128)
    · exact wpAny_pyIter_wide ha (pi_one (tk := s1.toks) I1 _ (turn_str _ z t "str_iterator" (.inr rfl)) ⟨_, Heap.get?_push_size _ rfl, rfl, rfl⟩ q)
    · exact wpAny_pyIter_ascii ha (pi_one (tk := s1.toks) I1 _ (turn_str _ z t "str_ascii_iterator" (.inl rfl)) ⟨_, Heap.get?_push_size _ rfl, rfl, rfl⟩ q)
section
variable {K : PySem.W.Frag} {δ : Dl} {μ μ1 : Mu} {te : TE} {w : W} {ws : List W} {Kp : Mu → Prop}
theorem ei_wL (e : Ev K te δ μ w μ1) (h : Its μ1 w ws) : EvI K (iSeqW K te) δ μ ws (KpOf w ws) μ1 := fun F ρ H σ R k s q => by
  refine e F ρ H σ _ k s fun v F1 ρ1 H1 g1 k1 e1 => ?_
  obtain ⟨a, vs, rfl, hs, pr⟩ := its_get k1 e1 h
  refine .inl ⟨a, rfl, .inl ⟨⟨vs, hs⟩, q (Itl K a) F1 ρ1 H1 g1 k1 ⟨fun i wi F2 ρ2 H2 μ2 hi g2 k2 kp => ?_, fun F2 ρ2 H2 μ2 g2 k2 kp => ?_⟩⟩⟩
  · obtain ⟨b, us, eb, hs2, pr2⟩ := its_get k2 (vw_go g2 e1) (its_kp h kp)
    cases eb
    obtain ⟨u, hu, ru⟩ := pr_get pr2 hi
    exact ⟨⟨us, u, hs2, hu⟩, fun x H3 y => ⟨F2, ρ2, by rw [y.1]; exact Go.refl, by rw [y.1]; exact k2, by
      have z := y.2 us hs2
      rw [hu] at z
      cases z
      exact ru⟩⟩
  · obtain ⟨b, us, eb, hs2, pr2⟩ := its_get k2 (vw_go g2 e1) (its_kp h kp)
    cases eb
    exact ⟨us, hs2, by rw [pr_len pr2]; exact Nat.le_refl _⟩
theorem ei_wT {xs : List PyData} (e : Ev K te δ μ (.d (.tuple xs)) μ1) : EvI K (iSeqW K te) δ μ (xs.map .d) (fun _ => True) μ1 := fun F ρ H σ R k s q =>
  e F ρ H σ _ k s fun v F1 ρ1 H1 g1 k1 e1 => by
    obtain ⟨a, vs, rfl, hs, pr⟩ := vw_t e1
    refine .inl ⟨a, rfl, .inr ⟨⟨vs, ex_t k1.ex hs⟩, q (Itt K a) F1 ρ1 H1 g1 k1 ⟨fun i wi F2 ρ2 H2 μ2 hi g2 k2 kp => ?_, fun F2 ρ2 H2 μ2 g2 k2 kp => ?_⟩⟩⟩
    · obtain ⟨u, hu, ru⟩ := pr_get (pr_dmap (ρ := ρ1) pr) hi
      have hs2 := ex_t k2.ex (ex_t g2.ex hs)
      exact ⟨⟨vs, u, hs2, hu⟩, fun x H3 y => ⟨F2, ρ2, by rw [y.1]; exact Go.refl, by rw [y.1]; exact k2, by
        have z := y.2 vs hs2
        rw [hu] at z
        cases z
        exact vw_go g2 ru⟩⟩
    · exact ⟨vs, ex_t k2.ex (ex_t g2.ex hs), by rw [pr_len pr, List.length_map]; exact Nat.le_refl _⟩
theorem ei_wD {x : PyData} {xs : List PyData} (e : Ev K te δ μ (.d x) μ1) (h : x = .list xs ∨ x = .tuple xs) : EvI K (iSeqW K te) δ μ (xs.map .d) (fun _ => True) μ1 := by
  rcases h with rfl | rfl
  · exact ei_wL e (.d xs)
  · exact ei_wT e
def signs (s : Str) : List Str := s.cps.toList.map fun c => ⟨#[c]⟩
theorem ei_wS {z : Str} (e : Ev K te δ μ (.s z) μ1) : EvI K (iSeqW K te) δ μ ((signs z).map .s) (fun _ => True) μ1 := fun F ρ H σ R k s q =>
  e F ρ H σ _ k s fun v F1 ρ1 H1 g1 k1 e1 => by
    have := vw_s e1
    subst this
    have hl : ((signs z).map W.s).length = z.cps.size := by unfold signs; rw [List.length_map, List.length_map, Array.length_toList]
    refine .inr ⟨z, rfl, q (L2.Its z) F1 ρ1 H1 g1 k1 ⟨fun i wi F2 ρ2 H2 μ2 hi g2 k2 kp => ⟨?_, fun x H3 y => ?_⟩, fun F2 ρ2 H2 μ2 g2 k2 kp => ?_⟩⟩
    · have := (List.getElem?_eq_some_iff.mp hi).1
      show i < z.cps.size
      omega
    · obtain ⟨rfl, c, hc, rfl⟩ := y
      refine ⟨F2, ρ2, Go.refl, k2, ?_⟩
      unfold signs at hi
      rw [List.map_map, List.getElem?_map, Array.getElem?_toList, hc] at hi
      simp at hi
      subst hi
      exact Dp.str _
    · show z.cps.size ≤ _
      omega
end
end DL

set_option Elab.async false
set_option linter.all false
set_option maxRecDepth 100000
set_option maxHeartbeats 2000000
/-! DM7: joined calls and stores; displays of dicts. -/
namespace DL
open PySem PySem.Spec PyProof.Rows L2
variable [Wd]
def rSortU [Wd] (K : PySem.W.Frag) : List V → Hp → VK → Prop := fun vs H Q => rSortedD K vs H Q ∨ rSortedK K vs H Q
theorem cr_sortU {X : Cx} (hW : WdOk X) (hc : X.calm = true) (hu : X.A.units + 64 < cLine) : CallR X (.builtin "sorted") (rSortU X.K) := by
  intro pins s σ H vs us Q I r h
  rcases h with h | h
  · exact cr_sortedD hu pins s σ H vs us Q I r h
  · exact cr_sortedK hW hc hu pins s σ H vs us Q I r h
def rSetU [Wd] (K : PySem.W.Frag) : V → V → V → Hp → (Hp → Prop) → Prop := fun o i v H Q => rSetL o i v H Q ∨ rDSet K o i v H Q
theorem set_U {X : Cx} (hW : WdOk X) (hu : X.A.units + 64 < cLine) : PSet X (rSetU X.K) := by
  intro pins s σ H o i v ov iv u Q I ro ri rv h
  rcases h with h | h
  · exact set_list pins s σ H o i v ov iv u Q I ro ri rv h
  · exact set_dictN hW (by omega) pins s σ H o i v ov iv u Q I ro ri rv h
def rJoinU (K : PySem.W.Frag) : V → List V → Hp → VK → Prop := fun x xs H Q => ∃ a p, ∃ ys : List Str, x = .str a ∧ xs = [.ref p] ∧ (SqL K H p (ys.map V.str) ∨ SqT K H p (ys.map V.str)) ∧
    (ys.map (·.length)).sum + ys.length * a.length ≤ 16777216 ∧ Q (.str (Txt.join a ys)) H
theorem mt_joinU {X : Cx} : MtR X "str.join" (rJoinU X.K) := mt_join
theorem dn0_ok {X : Cx} (hW : WdOk X) : ∀ (H : Hp) (h : Heap), sysModules < h.objs.size → ObjOk X.prog X.w H (h.push { cls := .type "dict", data := .dict #[] }) h.objs.size (dn0 h.objs.size) := fun H h hb =>
  dnO_ok ⟨Nat.zero_le _, beq_eq_false_iff_ne.mpr (Ne.symm (Nat.ne_of_lt hb)), [], .nil, List.nodup_nil, _, #[], 0, Heap.get?_push_size _ rfl, ⟨rfl, rfl, rfl⟩, rfl, rfl⟩
section
variable {K : PySem.W.Frag} {F F' H H' : Hp} {ρ ρ' : List Addr} {μ μ1 μ2 μ' : Mu} {v y : V} {w x z : W} {δ δ' : Dl} {ta tb te : TE}
theorem eg_or1 {t u : TSet} (h : EvG K (gSub ta tb t) w δ μ δ' μ') (m : ∀ (o i v : V) (H : Hp) (Q : Hp → Prop), t o i v H Q → u o i v H Q) (ma : ∀ σ H (Q Q' : VK), (∀ v H', Q v H' → Q' v H') → ta σ H Q → ta σ H Q') (mb : ∀ σ H (Q Q' : VK), (∀ v H', Q v H' → Q' v H') → tb σ H Q → tb σ H Q') :
    EvG K (gSub ta tb u) w δ μ δ' μ' := fun F ρ H σ v Q k s hv q => by
  have := h F ρ H σ v Q k s hv q
  exact ma _ _ _ _ (fun o H1 z => mb _ _ _ _ (fun i H2 z2 => m _ _ _ _ _ z2) z) this
theorem eg_subQ {n j : Nat} {i : Int} {xs : List W} (ha : Ev K ta δ μ (.p n) μ1) (hb : Ev K tb δ μ1 (.i i) μ2) (e : μ2[n]? = some (.lst xs)) (hi : ixN xs.length i = some j) :
    EvG K (gSub ta tb (rSetU K)) w δ μ δ (μ2.set n (.lst (xs.set j w))) := fun F ρ H σ v Q k s hv q =>
  ha F ρ H σ _ k s fun v1 F1 ρ1 H1 g1 k1 e1 => hb F1 ρ1 H1 σ _ k1 (sl_go g1 s) fun v2 F2 ρ2 H2 g2 k2 e2 => by
    obtain ⟨a, ea, rfl⟩ := vw_go g2 e1
    obtain ⟨b, eb, hF, vs, hb, pr⟩ := k2.at e
    rw [ea] at eb
    cases eb
    have hv2 := vw_go g2 (vw_go g1 hv)
    obtain ⟨k3, g3⟩ := k2.put (o := .lst (vs.set j v)) (c := .lst (xs.set j w)) ea hF ⟨hF, _, upd_same, pr_set hv2 j pr⟩
    exact .inl ⟨a, vs, i, j, rfl, vw_int e2, hb, by rw [pr_len pr]; exact hi, q σ _ _ _ ((g1.trans g2).trans g3) k3 (sl_go g3 (sl_go g2 (sl_go g1 s)))⟩
theorem eg_subKU {n : Nat} {k : Key} {ks : List (Key × W)} (ha : Ev K ta δ μ (.p n) μ1) (hb : Ev K tb δ μ1 (kW k) μ2) (e : μ2[n]? = some (.dk ks)) (hl : ks.length < sizeLine) :
    EvG K (gSub ta tb (rSetU K)) w δ μ δ (μ2.set n (.dk (puD ks k w))) := fun F ρ H σ v Q k0 s hv q =>
  ha F ρ H σ _ k0 s fun v1 F1 ρ1 H1 g1 k1 e1 => hb F1 ρ1 H1 σ _ k1 (sl_go g1 s) fun v2 F2 ρ2 H2 g2 k2 e2 => by
    obtain ⟨a, ea, rfl⟩ := vw_go g2 e1
    obtain ⟨b, eb, hF, vs, hb, pr⟩ := k2.at e
    rw [ea] at eb
    cases eb
    have hv2 := vw_go g2 (vw_go g1 hv)
    obtain ⟨k3, g3⟩ := k2.put (o := .dK (putK vs k v)) (c := .dk (puD ks k w)) ea hF ⟨hF, _, upd_same, kw_put pr k hv2⟩
    exact .inr ⟨a, _, rfl, .inl ⟨vs, k, hb, kw_v e2, by rw [pr_len pr]; exact hl, rfl⟩, q σ _ _ _ ((g1.trans g2).trans g3) k3 (sl_go g3 (sl_go g2 (sl_go g1 s)))⟩
theorem eg_subNU {n : Nat} {kk : List NK} {ks : List (NK × W)} (ha : Ev K ta δ μ (.p n) μ1) (hb : Ev K tb δ μ1 (.d (NestedKey.data (.tup kk))) μ2) (e : μ2[n]? = some (.dn ks)) (hd : NestedKey.depth (.tup kk) ≤ 8) (hl : ks.length < sizeLine) :
    EvG K (gSub ta tb (rSetU K)) w δ μ δ (μ2.set n (.dn (puD ks (.tup kk) w))) := fun F ρ H σ v Q k0 s hv q =>
  ha F ρ H σ _ k0 s fun v1 F1 ρ1 H1 g1 k1 e1 => hb F1 ρ1 H1 σ _ k1 (sl_go g1 s) fun v2 F2 ρ2 H2 g2 k2 e2 => by
    obtain ⟨a, ea, rfl⟩ := vw_go g2 e1
    obtain ⟨b, eb, hF, vs, hb, hK, pr⟩ := k2.at e
    rw [ea] at eb
    cases eb
    have hv2 := vw_go g2 (vw_go g1 hv)
    obtain ⟨b, rfl⟩ := nk_ref e2
    obtain ⟨k3, g3⟩ := k2.put (o := DnO a (putN vs (.tup kk) b v)) (c := .dn (puD ks (.tup kk) w)) ea hF ⟨hF, _, upd_same, keysD_put hK e2 hd, nw_put pr _ b hv2⟩
    exact .inr ⟨a, _, rfl, .inr ⟨vs, .tup kk, b, hb, rfl, dp_ex k2.ex e2, hd, fun p hp => ⟨dp_ex k2.ex (hK p hp).1, (hK p hp).2⟩, by rw [pr_len pr]; exact hl, rfl⟩, q σ _ _ _ ((g1.trans g2).trans g3) k3 (sl_go g3 (sl_go g2 (sl_go g1 s)))⟩
theorem rc_sortL {ds : List PyData} (h : DL.Its μ w (ds.map .d)) (ok : SortOk ds) : RC K (rSortU K) [w] μ (.d (.list (sortD ds))) μ := fun F ρ H vs Q k a q => .inl (rc_sortedL h ok F ρ H vs Q k a q)
theorem rc_sortK {n : Nat} {ks : List (Key × W)} (e : μ[n]? = some (.dk ks)) (ok : SortOk (ks.map fun p => kD p.1)) : RC K (rSortU K) [.p n] μ (.d (.list (sortD (ks.map fun p => kD p.1)))) μ := fun F ρ H vs Q k a q => .inr (rc_sortedK e ok F ρ H vs Q k a q)
theorem rc_sortN {n : Nat} {ks : List (NK × W)} (e : μ[n]? = some (.dn ks)) (ok : SortOk (ks.map fun p => p.1.data)) : RC K (rSortU K) [.p n] μ (.d (.list (sortD (ks.map fun p => p.1.data)))) μ := fun F ρ H vs Q k a q => .inr (rc_sortedN e ok F ρ H vs Q k a q)
theorem dp_strs {F : Hp} : ∀ {vs : List V} {ys : List Str}, Paired (Dp K F) vs (ys.map .str) → vs = ys.map V.str
  | [], [], _ => rfl
  | v :: vs, y :: ys, .cons a t => by
    rw [List.map_cons, ← dp_strs t]
    cases a
    rfl
  | [], y :: ys, h => nomatch h
  | v :: vs, [], h => nomatch h
theorem rm_join {a : Str} {ys : List Str} (h : DL.Its μ w (ys.map fun y => .d (.str y))) (hz : (ys.map (·.length)).sum + ys.length * a.length ≤ 16777216) : RM K (rJoinU K) (.s a) [w] μ (.s (Txt.join a ys)) μ := fun F ρ H v vs Q k h1 h2 q => by
  cases h2 with
  | cons b t =>
    cases t
    have h' : DL.Its μ w ((ys.map PyData.str).map .d) := by rw [List.map_map]; exact h
    obtain ⟨p, us, rfl, hs, pr⟩ := its_get k b h'
    have := dp_strs (pr_dun pr)
    subst this
    exact ⟨a, p, ys, vw_s h1, rfl, .inl hs, hz, q _ F ρ H Go.refl k (Dp.str _)⟩
/-! displays -/
def EvPs (K : PySem.W.Frag) (trs : List (TE × TE)) (δ : Dl) (μ : Mu) (ps : List (Key × W)) (μ' : Mu) : Prop :=
  ∀ (F : Hp) (ρ : List Addr) (H : Hp) (σ : L2.St) (Q : List (V × V) → Hp → Prop), Ok K F ρ H μ → Sl K F ρ σ δ →
    (∀ vs F' ρ' H', Go F ρ H F' ρ' H' → Ok K F' ρ' H' μ' → Paired (KW K F' ρ') vs ps → Q (vs.map fun p => (kV p.1, p.2)) H') → tPairs trs σ H Q
theorem ep_nil : EvPs K [] δ μ [] μ := fun F ρ H σ Q k s q => q [] F ρ H Go.refl k .nil
theorem ep_cons {trs : List (TE × TE)} {ps : List (Key × W)} {k : Key} (ha : Ev K ta δ μ (kW k) μ1) (hb : Ev K tb δ μ1 w μ2) (hr : EvPs K trs δ μ2 ps μ') : EvPs K ((ta, tb) :: trs) δ μ ((k, w) :: ps) μ' := fun F ρ H σ Q k0 s q =>
  ha F ρ H σ _ k0 s fun v1 F1 ρ1 H1 g1 k1 e1 => hb F1 ρ1 H1 σ _ k1 (sl_go g1 s) fun v2 F2 ρ2 H2 g2 k2 e2 =>
    hr F2 ρ2 H2 σ _ k2 (sl_go g2 (sl_go g1 s)) fun vs F3 ρ3 H3 g3 k3 e3 => by
      have := q ((k, v2) :: vs) F3 ρ3 H3 ((g1.trans g2).trans g3) k3 (.cons ⟨rfl, vw_go g3 e2⟩ e3)
      rw [List.map_cons] at this
      rw [kw_v e1]
      exact this
theorem kw_merge : ∀ {vs : List (Key × V)} {ps : List (Key × W)} {acc : List (Key × V)} {ks : List (Key × W)}, Paired (KW K F ρ) vs ps → Paired (KW K F ρ) acc ks → Paired (KW K F ρ) (mergeK acc vs) (ps.foldl (fun acc p => puD acc p.1 p.2) ks)
  | _, _, _, _, .nil, h => h
  | p :: vs, q :: ps, _, _, .cons ⟨e1, e2⟩ t, h => by
    show Paired (KW K F ρ) (mergeK (putK _ p.1 p.2) vs) (ps.foldl _ (puD _ q.1 q.2))
    refine kw_merge t ?_
    rw [← e1]
    exact kw_put h _ e2
theorem ev_disp {trs : List (TE × TE)} {ps : List (Key × W)} (h : EvPs K trs δ (μ ++ [.dk []]) ps μ1) (e : μ1[μ.length]? = some (.dk [])) (hl : ps.length ≤ 15) : Ev K (tDisp trs) δ μ (.p μ.length) (μ1.set μ.length (.dk (mkD ps))) := fun F ρ H σ Q k s q => fun p hp => by
  obtain ⟨k2, g2, e2⟩ := k.push (o := .dK []) (c := .dk []) hp ⟨(k.free hp).1, [], upd_same, .nil⟩
  refine h F (ρ ++ [p]) _ σ _ k2 (sl_go g2 s) fun vs F3 ρ3 H3 g3 k3 pr => ?_
  have e3 := g3.at e2
  obtain ⟨b, eb, hF, us, hb, pu⟩ := k3.at e
  rw [e3] at eb
  cases eb
  have hu : us = [] := pr_nilR pu
  subst hu
  obtain ⟨k4, g4⟩ := k3.put (o := .dK (mergeK [] vs)) (c := .dk (mkD ps)) e3 hF ⟨hF, _, upd_same, kw_merge pr .nil⟩
  exact ⟨hb, vs, rfl, by rw [pr_len pr]; exact hl, q _ _ _ _ ((g2.trans g3).trans g4) k4 ⟨p, g4.at e3, rfl⟩⟩
end
end DL

set_option Elab.async false
set_option linter.all false
set_option maxRecDepth 100000
set_option maxHeartbeats 2000000
/-! DM8: a name set to a comprehension of a dict. -/
namespace DL
open PySem PySem.Spec PyProof.Rows L2
theorem room65 {k : Nat} {A : Around} (r : Room k A) : A.units + 65 < cLine := by
  have := r.un
  omega
theorem room9 {k : Nat} {A : Around} (r : Room k A) : A.units + 9 < cLine := by
  have := r.un
  omega
variable [Wd]
section
variable {X : Cx}
theorem sw_trueD {kx vx : Expr} {gs : List Comprehension} {scope : Scope} {pos py : Pos} {y : Str} {l : Nat} {env : Env} (hk : env.scope.kind = .function) (hy : env.scope.names.lookup y = some .local) (hl : (py.line == pos.line) = true)
    (ha : (scope.names.any fun (n, k) => n == y && (k == .local || k == .cell)) = false) : swapsWith (.DictComp kx vx gs scope pos) (some (.Name y py)) l env = pure true := by
  have ky : env.kindOf y = some .local := hy
  have hb : env.blockKind = .function := by unfold Env.blockKind; rw [hk]; rfl
  unfold swapsWith
  simp only [hb, ky, ha, Expr.pos, hl]
  rfl
theorem ps_setDcN {i : Nat} {y : Str} {py : Pos} {kx vx tg iter : Expr} {ifs : List Expr} {scope : Scope} {own : List (Str × Nat)} {pos spos : Pos} {wi : TI} {g : TG} {tt : TT} {tk tv : TE} (hW : WdOk X) (hu : X.A.units + 9 < cLine) (hc : X.calm = true) (hN : X.N.Nodup) (hy : X.N[i]? = some y) (hyl : X.env.scope.names.lookup y = some .local)
    (hsw : swapsWith (.DictComp kx vx [⟨tg, iter, ifs, 0⟩] scope pos) (some (.Name y py)) spos.line X.env = pure true) (hi : PI X tg iter wi) (ok : BlkOk X.N X.env.scope scope own)
    (hg : ∀ (s : Shared) (H : Hp) (C : Addr) (cl : List (Str × Addr)) (fp : List Addr), PG (X.blk s H scope (compEnvC scope cl C X.env) fp) tg g) (ht : ∀ (s : Shared) (H : Hp) (C : Addr) (cl : List (Str × Addr)) (fp : List Addr), PTs (X.blk s H scope (compEnvC scope cl C X.env) fp) ifs tt)
    (hk : ∀ (s : Shared) (H : Hp) (C : Addr) (cl : List (Str × Addr)) (fp : List Addr), PE (X.blk s H scope (compEnvC scope cl C X.env) fp) kx tk)
    (he : ∀ (s : Shared) (H : Hp) (C : Addr) (cl : List (Str × Addr)) (fp : List Addr), PE (X.blk s H scope (compEnvC scope cl C X.env) fp) vx tv) (hs : ∀ x, foldedSetIterable iter X.env x = pure x := by intro _; rfl) :
    PS X (.Assign [.Name y py] (.DictComp kx vx [⟨tg, iter, ifs, 0⟩] scope pos) spos) (tAsg (tDcN X.K dn0 wi g tt tk tv (own.map (·.2))) (gName i)) := by
  refine ⟨fun pins s σ H D I h => ?_⟩
  rw [exec_Assign_Name_used _ _ _ _ hsw]
  refine wpAny_bind (wpAny_standAt (wpAny_bind ?_))
  show wpAny _ X.A (do let _ ← comprehension (.DictComp kx vx [⟨tg, iter, ifs, 0⟩] scope pos) scope X.env (firstIterPos [⟨tg, iter, ifs, 0⟩] pos) newDict false (eval iter X.env) (some (assign (.Name y py) X.env))) _ _ s
  have h : tDcN X.K dn0 wi g tt tk tv (own.map (·.2)) σ H (fun x H1 => gName i x σ H1 D.nx) := h
  refine wpAny_bind (thn (dcN_core (Qf := fun _ s' => SP X pins D .next s') hW hu (dn0_ok hW) hc hN I hi ok hg ht hk he hs h fun L C s' m H' I' q hn f => ?_) fun _ s' hq => wpAny_pure (wpAny_pure hq))
  show wpAny _ _ (assign (.Name y py) X.env (.ref L)) _ _ _
  refine wpAny_assign_Name (store_ok2 (v := V.ref L) I' hN hy (.inl hyl) rfl (fun s2 I2 ⟨a, sb, ha⟩ => ?_) (.inr hyl))
  obtain ⟨f0, f1, f2, f3, f4, f5⟩ := f
  have haC : C ≠ a := by
    rcases ha with z | z
    · rw [z]; exact f1
    · exact fun e => f4 y a z e.symm
  refine ⟨m, hn.sameBut sb haC, fun h3 sb3 => ?_⟩
  exact ⟨_, H', I2.turned (t' := s2.toks) (fun b o hb e => (sb3.2 b hb).trans e) f0 f1 f3 f4 f5, q⟩
end
end DL

set_option Elab.async false
set_option linter.all false
set_option maxRecDepth 100000
set_option maxHeartbeats 2000000
/-! DM9: plain laws of dicts as rows of pairs, of sorted rows. -/
namespace DL
open PySem PySem.Spec PyProof.Rows L2
variable [Wd]
section
variable {κ : Type} [DecidableEq κ]
theorem mem_puD {ks : List (κ × W)} {k : κ} {w : W} {p : κ × W} (h : p ∈ puD ks k w) : p ∈ ks ∨ p = (k, w) := by
  unfold puD at h
  split at h
  · obtain ⟨q, hq, e⟩ := List.mem_map.mp h
    by_cases z : q.1 = k
    · rw [if_pos z] at e
      exact .inr (by rw [← e, ← z])
    · rw [if_neg z] at e
      exact .inl (e ▸ hq)
  · rcases List.mem_append.mp h with h | h
    · exact .inl h
    · exact .inr (by simpa using h)
theorem lkD_none {ks : List (κ × W)} {k : κ} : lkD ks k = none ↔ k ∉ ks.map (·.1) := by
  induction ks with
  | nil => simp [lkD_nil]
  | cons p ks ih =>
    rw [lkD_cons, List.map_cons, List.mem_cons]
    by_cases z : p.1 = k
    · rw [if_pos z]
      simp [z]
    · rw [if_neg z, ih]
      constructor
      · rintro h (e | e)
        · exact z e.symm
        · exact h e
      · exact fun h e => h (.inr e)
theorem keys_puD {ks : List (κ × W)} {k : κ} {w : W} : (puD ks k w).map (·.1) = if (lkD ks k).isSome then ks.map (·.1) else ks.map (·.1) ++ [k] := by
  unfold puD
  split
  · rw [List.map_map]
    refine List.map_congr_left fun p _ => ?_
    show (if p.1 = k then (p.1, w) else p).1 = p.1
    split <;> rfl
  · rw [List.map_append]
    rfl
theorem nodup_puD {ks : List (κ × W)} {k : κ} {w : W} (h : (ks.map (·.1)).Nodup) : ((puD ks k w).map (·.1)).Nodup := by
  rw [keys_puD]
  split
  · exact h
  · rename_i hn
    have e : lkD ks k = none := by
      cases z : lkD ks k with
      | none => rfl
      | some x => rw [z] at hn; exact absurd rfl hn
    have := lkD_none.mp e
    refine List.nodup_append.mpr ⟨h, by simp, fun a ha b hb e2 => ?_⟩
    simp at hb
    subst hb
    subst e2
    exact this ha
theorem foldl_puD (ps : List (κ × W)) : ∀ acc : List (κ × W), (acc.map (·.1)).Nodup → ((ps.foldl (fun acc p => puD acc p.1 p.2) acc).map (·.1)).Nodup ∧ ∀ p ∈ ps.foldl (fun acc p => puD acc p.1 p.2) acc, p ∈ acc ∨ p ∈ ps := by
  induction ps with
  | nil => exact fun acc h => ⟨h, fun p hp => .inl hp⟩
  | cons q ps ih =>
    intro acc h
    obtain ⟨h1, h2⟩ := ih (puD acc q.1 q.2) (nodup_puD h)
    refine ⟨h1, fun p hp => ?_⟩
    rcases h2 p hp with h3 | h3
    · rcases mem_puD h3 with h4 | h4
      · exact .inl h4
      · exact .inr (by rw [h4]; exact List.mem_cons_self)
    · exact .inr (List.mem_cons_of_mem _ h3)
theorem mkD_nodup (ps : List (κ × W)) : ((mkD ps).map (·.1)).Nodup := (foldl_puD ps [] List.nodup_nil).1
theorem mkD_mem {ps : List (κ × W)} {p : κ × W} (h : p ∈ mkD ps) : p ∈ ps := by
  rcases (foldl_puD ps [] List.nodup_nil).2 p h with h | h
  · cases h
  · exact h
theorem lkD_mem {ks : List (κ × W)} {p : κ × W} (hn : (ks.map (·.1)).Nodup) (h : p ∈ ks) : lkD ks p.1 = some p.2 := by
  induction ks with
  | nil => cases h
  | cons q ks ih =>
    rw [List.map_cons, List.nodup_cons] at hn
    rw [lkD_cons]
    rcases List.mem_cons.mp h with h | h
    · subst h
      rw [if_pos rfl]
    · have : q.1 ≠ p.1 := fun e => hn.1 (e ▸ List.mem_map.mpr ⟨p, h, rfl⟩)
      rw [if_neg this]
      exact ih hn.2 h
theorem keys_fold (ps : List (κ × W)) : ∀ (acc : List (κ × W)) (k : κ), k ∈ (ps.foldl (fun acc p => puD acc p.1 p.2) acc).map (·.1) ↔ k ∈ acc.map (·.1) ∨ k ∈ ps.map (·.1) := by
  induction ps with
  | nil => intro acc k; simp
  | cons q ps ih =>
    intro acc k
    show k ∈ (ps.foldl _ (puD acc q.1 q.2)).map (·.1) ↔ _
    rw [ih, keys_puD, List.map_cons, List.mem_cons]
    split
    · rename_i hs
      have hq : q.1 ∈ acc.map (·.1) := Classical.byContradiction fun z => by
        rw [lkD_none.mpr z] at hs
        cases hs
      constructor
      · rintro (h | h)
        · exact .inl h
        · exact .inr (.inr h)
      · rintro (h | h | h)
        · exact .inl h
        · exact .inl (h ▸ hq)
        · exact .inr h
    · rw [List.mem_append, List.mem_singleton]
      constructor
      · rintro ((h | h) | h)
        · exact .inl h
        · exact .inr (.inl h)
        · exact .inr (.inr h)
      · rintro (h | h | h)
        · exact .inl (.inl h)
        · exact .inl (.inr h)
        · exact .inr h
theorem mkD_keys (ps : List (κ × W)) (k : κ) : k ∈ (mkD ps).map (·.1) ↔ k ∈ ps.map (·.1) := by
  unfold mkD
  rw [keys_fold]
  simp
end
/-- the pairs of a dict in the order of their keys -/
def sortP (ks : List (NK × W)) : List (NK × W) := ks.mergeSort fun p q => PySem.W.dataLe false id p.1.data q.1.data
theorem sortP_keys (ks : List (NK × W)) : sortD (ks.map fun p => p.1.data) = (sortP ks).map fun p => p.1.data := by
  unfold sortD sortP
  exact (List.map_mergeSort (f := fun p : NK × W => p.1.data) (r := fun p q => PySem.W.dataLe false id p.1.data q.1.data) (s := PySem.W.dataLe false id) fun _ _ _ _ => rfl).symm
theorem sortP_mem {ks : List (NK × W)} {p : NK × W} : p ∈ sortP ks ↔ p ∈ ks := (List.mergeSort_perm ks _).mem_iff
theorem sortP_len (ks : List (NK × W)) : (sortP ks).length = ks.length := List.length_mergeSort ks
end DL

set_option Elab.async false
set_option linter.all false
set_option maxRecDepth 100000
set_option maxHeartbeats 4000000
namespace Mine
open PySem PySem.Spec PyProof.Rows L2 DL
variable [Wd]
/-! the text by places -/
def top (i : Nat) : Stmt := PySem.Challenge.pw_askproved_k38_things_in_order.main.body.getD i (.Pass ⟨0, 0, 0, 0⟩)
abbrev s_is_number : Stmt := top 8
abbrev s_is_name : Stmt := top 9
abbrev s_is_value : Stmt := top 10
abbrev s_order : Stmt := top 11
abbrev s_is_rule_text : Stmt := top 15
abbrev s_is_fact_thing : Stmt := top 16
abbrev s_is_thing : Stmt := top 17
abbrev s_key_of : Stmt := top 18
abbrev s_in_order : Stmt := top 19
abbrev s_are_things : Stmt := top 20
abbrev s_fact_thing : Stmt := top 21
abbrev s_rule_thing : Stmt := top 22
abbrev s_facts_among : Stmt := top 23
abbrev s_texts_among : Stmt := top 24
abbrev s_only_in : Stmt := top 25
abbrev s_together : Stmt := top 26
abbrev s_line_of_thing : Stmt := top 27
abbrev s_law_cell : Stmt := top 29
abbrev s_law_take : Stmt := top 30
abbrev s_law_next : Stmt := top 31
abbrev s_law_drawn_value : Stmt := top 32
abbrev s_law_fact : Stmt := top 33
abbrev s_law_key : Stmt := top 34
abbrev s_law_rules : Stmt := top 35
abbrev s_law_thing : Stmt := top 36
abbrev s_law_thing_key : Stmt := top 37
abbrev s_law_ordered : Stmt := top 38
abbrev s_law_shuffled : Stmt := top 39
abbrev s_law_line : Stmt := top 40
abbrev s_law_raised : Stmt := top 41
abbrev s_law : Stmt := top 42
theorem sc_is_number : FnScope ["value"] ["value"] (defScope s_is_number) := ⟨rfl, rfl, rfl, by decide +kernel, rfl, by decide +kernel, by decide +kernel⟩
theorem sc_is_name : FnScope ["value", "sign"] ["value"] (defScope s_is_name) := ⟨rfl, rfl, rfl, by decide +kernel, rfl, by decide +kernel, by decide +kernel⟩
theorem sc_is_value : FnScope ["value"] ["value"] (defScope s_is_value) := ⟨rfl, rfl, rfl, by decide +kernel, rfl, by decide +kernel, by decide +kernel⟩
theorem sc_order : FnScope ["values", "value"] ["values"] (defScope s_order) := ⟨rfl, rfl, rfl, by decide +kernel, rfl, by decide +kernel, by decide +kernel⟩
theorem sc_is_rule_text : FnScope ["value", "sign"] ["value"] (defScope s_is_rule_text) := ⟨rfl, rfl, rfl, by decide +kernel, rfl, by decide +kernel, by decide +kernel⟩
theorem sc_is_fact_thing : FnScope ["value", "one"] ["value"] (defScope s_is_fact_thing) := ⟨rfl, rfl, rfl, by decide +kernel, rfl, by decide +kernel, by decide +kernel⟩
theorem sc_is_thing : FnScope ["value"] ["value"] (defScope s_is_thing) := ⟨rfl, rfl, rfl, by decide +kernel, rfl, by decide +kernel, by decide +kernel⟩
theorem sc_key_of : FnScope ["thing"] ["thing"] (defScope s_key_of) := ⟨rfl, rfl, rfl, by decide +kernel, rfl, by decide +kernel, by decide +kernel⟩
theorem sc_in_order : FnScope ["things", "rows", "told", "thing", "key"] ["things"] (defScope s_in_order) := ⟨rfl, rfl, rfl, by decide +kernel, rfl, by decide +kernel, by decide +kernel⟩
theorem sc_are_things : FnScope ["value", "thing"] ["value"] (defScope s_are_things) := ⟨rfl, rfl, rfl, by decide +kernel, rfl, by decide +kernel, by decide +kernel⟩
theorem sc_fact_thing : FnScope ["relation", "values", "found"] ["relation", "values"] (defScope s_fact_thing) := ⟨rfl, rfl, rfl, by decide +kernel, rfl, by decide +kernel, by decide +kernel⟩
theorem sc_rule_thing : FnScope ["text"] ["text"] (defScope s_rule_thing) := ⟨rfl, rfl, rfl, by decide +kernel, rfl, by decide +kernel, by decide +kernel⟩
theorem sc_facts_among : FnScope ["things", "thing"] ["things"] (defScope s_facts_among) := ⟨rfl, rfl, rfl, by decide +kernel, rfl, by decide +kernel, by decide +kernel⟩
theorem sc_texts_among : FnScope ["things", "thing"] ["things"] (defScope s_texts_among) := ⟨rfl, rfl, rfl, by decide +kernel, rfl, by decide +kernel, by decide +kernel⟩
theorem sc_only_in : FnScope ["one", "other", "told", "thing"] ["one", "other"] (defScope s_only_in) := ⟨rfl, rfl, rfl, by decide +kernel, rfl, by decide +kernel, by decide +kernel⟩
theorem sc_together : FnScope ["one", "other"] ["one", "other"] (defScope s_together) := ⟨rfl, rfl, rfl, by decide +kernel, rfl, by decide +kernel, by decide +kernel⟩
theorem sc_line_of_thing : FnScope ["thing", "values", "value"] ["thing"] (defScope s_line_of_thing) := ⟨rfl, rfl, rfl, by decide +kernel, rfl, by decide +kernel, by decide +kernel⟩
theorem sc_law_cell : FnScope ["script", "k"] ["script", "k"] (defScope s_law_cell) := ⟨rfl, rfl, rfl, by decide +kernel, rfl, by decide +kernel, by decide +kernel⟩
theorem sc_law_take : FnScope ["state", "limit", "cell", "found"] ["state", "limit"] (defScope s_law_take) := ⟨rfl, rfl, rfl, by decide +kernel, rfl, by decide +kernel, by decide +kernel⟩
theorem sc_law_next : FnScope ["state", "limit"] ["state", "limit"] (defScope s_law_next) := ⟨rfl, rfl, rfl, by decide +kernel, rfl, by decide +kernel, by decide +kernel⟩
theorem sc_law_drawn_value : FnScope ["state", "sort"] ["state", "sort"] (defScope s_law_drawn_value) := ⟨rfl, rfl, rfl, by decide +kernel, rfl, by decide +kernel, by decide +kernel⟩
theorem sc_law_fact : FnScope ["state", "name", "sorts", "sort"] ["state"] (defScope s_law_fact) := ⟨rfl, rfl, rfl, by decide +kernel, rfl, by decide +kernel, by decide +kernel⟩
theorem sc_law_key : FnScope ["values", "value"] ["values"] (defScope s_law_key) := ⟨rfl, rfl, rfl, by decide +kernel, rfl, by decide +kernel, by decide +kernel⟩
theorem sc_law_rules : FnScope ["a", "b", "c", "w", "found", "twice"] [] (defScope s_law_rules) := ⟨rfl, rfl, rfl, by decide +kernel, rfl, by decide +kernel, by decide +kernel⟩
theorem sc_law_thing : FnScope ["state", "pick", "texts"] ["state"] (defScope s_law_thing) := ⟨rfl, rfl, rfl, by decide +kernel, rfl, by decide +kernel, by decide +kernel⟩
theorem sc_law_thing_key : FnScope ["thing"] ["thing"] (defScope s_law_thing_key) := ⟨rfl, rfl, rfl, by decide +kernel, rfl, by decide +kernel, by decide +kernel⟩
theorem sc_law_ordered : FnScope ["things", "found", "thing", "key"] ["things"] (defScope s_law_ordered) := ⟨rfl, rfl, rfl, by decide +kernel, rfl, by decide +kernel, by decide +kernel⟩
theorem sc_law_shuffled : FnScope ["state", "rows", "left", "found", "k"] ["state", "rows"] (defScope s_law_shuffled) := ⟨rfl, rfl, rfl, by decide +kernel, rfl, by decide +kernel, by decide +kernel⟩
theorem sc_law_line : FnScope ["thing", "value"] ["thing"] (defScope s_law_line) := ⟨rfl, rfl, rfl, by decide +kernel, rfl, by decide +kernel, by decide +kernel⟩
theorem sc_law_raised : FnScope ["found", "k"] [] (defScope s_law_raised) := ⟨rfl, rfl, rfl, by decide +kernel, rfl, by decide +kernel, by decide +kernel⟩
theorem sc_law : FnScope ["script", "state", "one", "other", "rows", "more", "thing", "bad", "made", "k", "value"] ["script"] (defScope s_law) := ⟨rfl, rfl, rfl, by decide +kernel, rfl, by decide +kernel, by decide +kernel⟩
structure Ad where
  f_is_number : Addr
  d_is_number : FuncData
  f_is_name : Addr
  d_is_name : FuncData
  f_is_value : Addr
  d_is_value : FuncData
  f_order : Addr
  d_order : FuncData
  f_is_rule_text : Addr
  d_is_rule_text : FuncData
  f_is_fact_thing : Addr
  d_is_fact_thing : FuncData
  f_is_thing : Addr
  d_is_thing : FuncData
  f_key_of : Addr
  d_key_of : FuncData
  f_in_order : Addr
  d_in_order : FuncData
  f_are_things : Addr
  d_are_things : FuncData
  f_fact_thing : Addr
  d_fact_thing : FuncData
  f_rule_thing : Addr
  d_rule_thing : FuncData
  f_facts_among : Addr
  d_facts_among : FuncData
  f_texts_among : Addr
  d_texts_among : FuncData
  f_only_in : Addr
  d_only_in : FuncData
  f_together : Addr
  d_together : FuncData
  f_line_of_thing : Addr
  d_line_of_thing : FuncData
  f_law_cell : Addr
  d_law_cell : FuncData
  f_law_take : Addr
  d_law_take : FuncData
  f_law_next : Addr
  d_law_next : FuncData
  f_law_drawn_value : Addr
  d_law_drawn_value : FuncData
  f_law_fact : Addr
  d_law_fact : FuncData
  f_law_key : Addr
  d_law_key : FuncData
  f_law_rules : Addr
  d_law_rules : FuncData
  f_law_thing : Addr
  d_law_thing : FuncData
  f_law_thing_key : Addr
  d_law_thing_key : FuncData
  f_law_ordered : Addr
  d_law_ordered : FuncData
  f_law_shuffled : Addr
  d_law_shuffled : FuncData
  f_law_line : Addr
  d_law_line : FuncData
  f_law_raised : Addr
  d_law_raised : FuncData
  f_law : Addr
  d_law : FuncData
  C_InvalidArgument : Addr
  c_MOST_NUMBER : Tok
  c_MOST_WORD : Tok
  c_LETTERS : Tok
  c_LATER : Tok
  c_LONGEST : Tok
  c_MOST_VALUES : Tok
structure Txt (K : PySem.W.Frag) (mg : Str → Option Value) (a : Ad) : Prop where
  f_is_number : Fun K "is_number" "is_number" s_is_number a.f_is_number a.d_is_number
  b_is_number : Binds K a.d_is_number ["value"] []
  g_is_number : mg "is_number" = some (.ref a.f_is_number)
  f_is_name : Fun K "is_name" "is_name" s_is_name a.f_is_name a.d_is_name
  b_is_name : Binds K a.d_is_name ["value"] []
  g_is_name : mg "is_name" = some (.ref a.f_is_name)
  f_is_value : Fun K "is_value" "is_value" s_is_value a.f_is_value a.d_is_value
  b_is_value : Binds K a.d_is_value ["value"] []
  g_is_value : mg "is_value" = some (.ref a.f_is_value)
  f_order : Fun K "order" "order" s_order a.f_order a.d_order
  b_order : Binds K a.d_order ["values"] []
  g_order : mg "order" = some (.ref a.f_order)
  f_is_rule_text : Fun K "is_rule_text" "is_rule_text" s_is_rule_text a.f_is_rule_text a.d_is_rule_text
  b_is_rule_text : Binds K a.d_is_rule_text ["value"] []
  g_is_rule_text : mg "is_rule_text" = some (.ref a.f_is_rule_text)
  f_is_fact_thing : Fun K "is_fact_thing" "is_fact_thing" s_is_fact_thing a.f_is_fact_thing a.d_is_fact_thing
  b_is_fact_thing : Binds K a.d_is_fact_thing ["value"] []
  g_is_fact_thing : mg "is_fact_thing" = some (.ref a.f_is_fact_thing)
  f_is_thing : Fun K "is_thing" "is_thing" s_is_thing a.f_is_thing a.d_is_thing
  b_is_thing : Binds K a.d_is_thing ["value"] []
  g_is_thing : mg "is_thing" = some (.ref a.f_is_thing)
  f_key_of : Fun K "key_of" "key_of" s_key_of a.f_key_of a.d_key_of
  b_key_of : Binds K a.d_key_of ["thing"] []
  g_key_of : mg "key_of" = some (.ref a.f_key_of)
  f_in_order : Fun K "in_order" "in_order" s_in_order a.f_in_order a.d_in_order
  b_in_order : Binds K a.d_in_order ["things"] []
  g_in_order : mg "in_order" = some (.ref a.f_in_order)
  f_are_things : Fun K "are_things" "are_things" s_are_things a.f_are_things a.d_are_things
  b_are_things : Binds K a.d_are_things ["value"] []
  g_are_things : mg "are_things" = some (.ref a.f_are_things)
  f_fact_thing : Fun K "fact_thing" "fact_thing" s_fact_thing a.f_fact_thing a.d_fact_thing
  b_fact_thing : Binds K a.d_fact_thing ["relation", "values"] []
  g_fact_thing : mg "fact_thing" = some (.ref a.f_fact_thing)
  f_rule_thing : Fun K "rule_thing" "rule_thing" s_rule_thing a.f_rule_thing a.d_rule_thing
  b_rule_thing : Binds K a.d_rule_thing ["text"] []
  g_rule_thing : mg "rule_thing" = some (.ref a.f_rule_thing)
  f_facts_among : Fun K "facts_among" "facts_among" s_facts_among a.f_facts_among a.d_facts_among
  b_facts_among : Binds K a.d_facts_among ["things"] []
  g_facts_among : mg "facts_among" = some (.ref a.f_facts_among)
  f_texts_among : Fun K "texts_among" "texts_among" s_texts_among a.f_texts_among a.d_texts_among
  b_texts_among : Binds K a.d_texts_among ["things"] []
  g_texts_among : mg "texts_among" = some (.ref a.f_texts_among)
  f_only_in : Fun K "only_in" "only_in" s_only_in a.f_only_in a.d_only_in
  b_only_in : Binds K a.d_only_in ["one", "other"] []
  g_only_in : mg "only_in" = some (.ref a.f_only_in)
  f_together : Fun K "together" "together" s_together a.f_together a.d_together
  b_together : Binds K a.d_together ["one", "other"] []
  g_together : mg "together" = some (.ref a.f_together)
  f_line_of_thing : Fun K "line_of_thing" "line_of_thing" s_line_of_thing a.f_line_of_thing a.d_line_of_thing
  b_line_of_thing : Binds K a.d_line_of_thing ["thing"] []
  g_line_of_thing : mg "line_of_thing" = some (.ref a.f_line_of_thing)
  f_law_cell : Fun K "_law_cell" "_law_cell" s_law_cell a.f_law_cell a.d_law_cell
  b_law_cell : Binds K a.d_law_cell ["script", "k"] []
  g__law_cell : mg "_law_cell" = some (.ref a.f_law_cell)
  f_law_take : Fun K "_law_take" "_law_take" s_law_take a.f_law_take a.d_law_take
  b_law_take : Binds K a.d_law_take ["state", "limit"] []
  g__law_take : mg "_law_take" = some (.ref a.f_law_take)
  f_law_next : Fun K "_law_next" "_law_next" s_law_next a.f_law_next a.d_law_next
  b_law_next : Binds K a.d_law_next ["state", "limit"] []
  g__law_next : mg "_law_next" = some (.ref a.f_law_next)
  f_law_drawn_value : Fun K "_law_drawn_value" "_law_drawn_value" s_law_drawn_value a.f_law_drawn_value a.d_law_drawn_value
  b_law_drawn_value : Binds K a.d_law_drawn_value ["state", "sort"] []
  g__law_drawn_value : mg "_law_drawn_value" = some (.ref a.f_law_drawn_value)
  f_law_fact : Fun K "_law_fact" "_law_fact" s_law_fact a.f_law_fact a.d_law_fact
  b_law_fact : Binds K a.d_law_fact ["state"] []
  g__law_fact : mg "_law_fact" = some (.ref a.f_law_fact)
  f_law_key : Fun K "_law_key" "_law_key" s_law_key a.f_law_key a.d_law_key
  b_law_key : Binds K a.d_law_key ["values"] []
  g__law_key : mg "_law_key" = some (.ref a.f_law_key)
  f_law_rules : Fun K "_law_rules" "_law_rules" s_law_rules a.f_law_rules a.d_law_rules
  b_law_rules : Binds K a.d_law_rules [] []
  g__law_rules : mg "_law_rules" = some (.ref a.f_law_rules)
  f_law_thing : Fun K "_law_thing" "_law_thing" s_law_thing a.f_law_thing a.d_law_thing
  b_law_thing : Binds K a.d_law_thing ["state"] []
  g__law_thing : mg "_law_thing" = some (.ref a.f_law_thing)
  f_law_thing_key : Fun K "_law_thing_key" "_law_thing_key" s_law_thing_key a.f_law_thing_key a.d_law_thing_key
  b_law_thing_key : Binds K a.d_law_thing_key ["thing"] []
  g__law_thing_key : mg "_law_thing_key" = some (.ref a.f_law_thing_key)
  f_law_ordered : Fun K "_law_ordered" "_law_ordered" s_law_ordered a.f_law_ordered a.d_law_ordered
  b_law_ordered : Binds K a.d_law_ordered ["things"] []
  g__law_ordered : mg "_law_ordered" = some (.ref a.f_law_ordered)
  f_law_shuffled : Fun K "_law_shuffled" "_law_shuffled" s_law_shuffled a.f_law_shuffled a.d_law_shuffled
  b_law_shuffled : Binds K a.d_law_shuffled ["state", "rows"] []
  g__law_shuffled : mg "_law_shuffled" = some (.ref a.f_law_shuffled)
  f_law_line : Fun K "_law_line" "_law_line" s_law_line a.f_law_line a.d_law_line
  b_law_line : Binds K a.d_law_line ["thing"] []
  g__law_line : mg "_law_line" = some (.ref a.f_law_line)
  f_law_raised : Fun K "_law_raised" "_law_raised" s_law_raised a.f_law_raised a.d_law_raised
  b_law_raised : Binds K a.d_law_raised [] []
  g__law_raised : mg "_law_raised" = some (.ref a.f_law_raised)
  f_law : Fun K "law" "law" s_law a.f_law a.d_law
  b_law : Binds K a.d_law ["script"] []
  g_law : mg "law" = some (.ref a.f_law)
  g_InvalidArgument : mg "InvalidArgument" = some (.ref a.C_InvalidArgument)
  x_InvalidArgument : PySem.W.excIn K a.C_InvalidArgument [.type "ValueError", .type "Exception", .type "BaseException", .type "object"] "ValueError.__new__" = true
  k_InvalidArgument : PySem.W.keepIn K (.ref a.C_InvalidArgument) = true
  sb_InvalidArgument : PySem.W.subIn K (.ref a.C_InvalidArgument) (.type "BaseException") = some true
  ty_InvalidArgument : PySem.W.typeIn K (.ref a.C_InvalidArgument) = some (.type "type")
  e_InvalidArgument_InvalidArgument : PySem.W.exmOne K (.ref a.C_InvalidArgument) (.ref a.C_InvalidArgument) = some true
  g_MOST_NUMBER : mg "MOST_NUMBER" = some (.int 1000000000000 a.c_MOST_NUMBER)
  r_MOST_NUMBER : RelV (.int 1000000000000) (.int 1000000000000 a.c_MOST_NUMBER)
  g_MOST_WORD : mg "MOST_WORD" = some (.int 40 a.c_MOST_WORD)
  r_MOST_WORD : RelV (.int 40) (.int 40 a.c_MOST_WORD)
  g_LETTERS : mg "LETTERS" = some (.str "abcdefghijklmnopqrstuvwxyz" a.c_LETTERS)
  r_LETTERS : RelV (.str "abcdefghijklmnopqrstuvwxyz") (.str "abcdefghijklmnopqrstuvwxyz" a.c_LETTERS)
  g_LATER : mg "LATER" = some (.str "abcdefghijklmnopqrstuvwxyz0123456789_" a.c_LATER)
  r_LATER : RelV (.str "abcdefghijklmnopqrstuvwxyz0123456789_") (.str "abcdefghijklmnopqrstuvwxyz0123456789_" a.c_LATER)
  g_LONGEST : mg "LONGEST" = some (.int 400 a.c_LONGEST)
  r_LONGEST : RelV (.int 400) (.int 400 a.c_LONGEST)
  g_MOST_VALUES : mg "MOST_VALUES" = some (.int 6 a.c_MOST_VALUES)
  r_MOST_VALUES : RelV (.int 6) (.int 6 a.c_MOST_VALUES)
  z_abs : mg "abs" = none
  z_bool : mg "bool" = none
  z_dict : mg "dict" = none
  z_int : mg "int" = none
  z_isinstance : mg "isinstance" = none
  z_len : mg "len" = none
  z_list : mg "list" = none
  z_ord : mg "ord" = none
  z_range : mg "range" = none
  z_repr : mg "repr" = none
  z_sorted : mg "sorted" = none
  z_str : mg "str" = none
  z_tuple : mg "tuple" = none
local macro_rules | `(tactic| walk_at "e") => `(tactic| first
  | with_reducible exact ev_int
  | with_reducible exact ev_bl
  | with_reducible exact ev_str
  | with_reducible exact ev_non
  | ((with_reducible apply ev_var); rfl)
  | with_reducible exact ea_nil
  | with_reducible exact et_nil
  | with_reducible exact eo_no
  | with_reducible exact rv_addVI
  | with_reducible exact rv_subI
  | with_reducible exact rv_ltV
  | with_reducible exact rv_leV
  | with_reducible exact rv_gtV
  | with_reducible exact rv_geV
  | with_reducible exact rv_eqI
  | with_reducible exact rv_neI
  | with_reducible exact rv_isB
  | with_reducible exact rv_notB
  | ((with_reducible apply rv_modI); first | assumption | omega | skip)
  | ((with_reducible apply rv_divI); first | assumption | (constructor <;> omega) | skip)
  | with_reducible exact ru_I
  | with_reducible exact rc_abs
  | with_reducible exact rc_int
  | with_reducible exact rs_tup
  | with_reducible exact Tru.b _
  | with_reducible exact Tru.n
  | with_reducible exact DL.Seq.t _
  | with_reducible exact DL.Seq.l (Its.d _)
  | with_reducible exact Its.d _
  | with_reducible exact Sees.d _
  | ((with_reducible apply DL.Seq.l); (with_reducible apply DL.Its.p); assumption)
  | ((with_reducible apply DL.Its.p); assumption)
  | (with_reducible apply ev_op) <;> walk_at "e"
  | (with_reducible apply ev_un) <;> walk_at "e"
  | (with_reducible apply ea_cons) <;> walk_at "e"
  | (with_reducible apply ev_cb) <;> walk_at "e"
  | (with_reducible apply et_test) <;> walk_at "e"
  | (with_reducible apply et_not) <;> walk_at "e"
  | (with_reducible apply et_tr) <;> walk_at "e"
  | (with_reducible apply ev_notT) <;> walk_at "e"
  | (with_reducible apply eo_some) <;> walk_at "e"
  | ((with_reducible apply rv_ixQ) <;> first | ((with_reducible show atW _ _ = some _); rfl) | walk_at "e")
  | with_reducible exact rc_isint
  | with_reducible exact rc_isbool
  | with_reducible exact rc_isstr
  | with_reducible exact rc_istuple
  | with_reducible exact rc_islist
  | (with_reducible apply rc_len) <;> walk_at "e"
  | (with_reducible apply ev_fld) <;> walk_at "e"
  | (with_reducible apply ev_sl) <;> walk_at "e"
  
  | with_reducible exact ev_raw
  | with_reducible assumption
  | with_reducible rfl
  | skip)

theorem ev_leLeV {K : PySem.W.Frag} {δ : Dl} {μ : Mu} {ta tb tc : TE} {i j k : Int} (ha : Ev K ta δ μ (.i i) μ) (hb : Ev K tb δ μ (.i j) μ) (hc : Ev K tc δ μ (.i k) μ) : Ev K (tChain (rLeU K) (rLeU K) ta tb tc) δ μ (.b (decide (i ≤ j) && decide (j ≤ k))) μ :=
  ev_chain ha hb rv_leV (fun _ => hc) fun _ => rv_leV
/-! ### values -/
def isNumber (x : PyData) : Bool := match x with
  | .int i => decide (-1000000000000 ≤ i) && decide (i ≤ 1000000000000)
  | _ => false
def phNumber : DL.Spec := fun ws μ O => ∃ x, ws = [.d x] ∧ O (.ret (.b (isNumber x)) μ)
theorem ok_is_number {K : PySem.W.Frag} {mg : Str → Option Value} {base : Heap} {a : Ad} (T : Txt K mg a) : FnOk Wd.P Wd.w K mg base (L2.CX Wd.P Wd.w) 1 a.f_is_number a.d_is_number ["value"] (spOf K 1 phNumber) := by
  refine def_ok T.f_is_number sc_is_number rfl fun cdv A outer s H E hr => ?_
  have hu := hr.units
  have hu5 := room65 hr
  refine ⟨_, (pss_one (ps_ret (pe_and (pe_callB call_isi rfl T.z_isinstance (by decide +kernel) (pa_cons (pv 0) (pa_cons (pe_bltn (v := .ty "int") (u := .type "int") rfl T.z_int (by decide +kernel) rfl) pa_nil))) (pe_and (pe_notT (pe_callB call_isi rfl T.z_isinstance (by decide +kernel) (pa_cons (pv 0) (pa_cons (pe_bltn (v := .ty "bool") (u := .type "bool") rfl T.z_bool (by decide +kernel) rfl) pa_nil)))) (pe_one (pe_chain (op_leV hu) (op_leV hu) (pe_un un_neg (pe_glob rfl T.g_MOST_NUMBER T.r_MOST_NUMBER)) (pv 0) (pe_glob rfl T.g_MOST_NUMBER T.r_MOST_NUMBER))))))), ?_⟩
  try dsimp only [cxOf_K]
  rintro ws μ O ⟨x, rfl, hO⟩ _ _
  change St K _ _ [some _] _ _
  refine st_ret (w := .b (isNumber x)) (μ1 := μ) ?_ (.inl hO)
  refine ev_is (ev_andV (a := isaInt x) ?_ fun h => ev_andV (a := !isaBool x) (b := isNumber x) ?_ fun h2 => ?_) ?_
  · walk_at "e"
  · walk_at "e"
  · cases x with
    | int i => exact ev_leLeV (ev_un ev_int ru_I) (ev_var rfl) ev_int
    | _ => exact absurd (And.intro h h2) (by simp [isaInt, isaBool])
  · cases x <;> rfl
def LET : Str := "abcdefghijklmnopqrstuvwxyz"
def LAT : Str := "abcdefghijklmnopqrstuvwxyz0123456789_"
def isNameS (s : Str) : Bool := decide (1 ≤ (s.length : Int)) && decide ((s.length : Int) ≤ 40) && decide (s.cps.getD 0 0 ∈ LET.cps.toList) && s.cps.toList.all fun c => decide (c ∈ LAT.cps.toList)
def isName (x : PyData) : Bool := match x with
  | .str s => isNameS s
  | _ => false
def phName : DL.Spec := fun ws μ O => ∃ x, ws = [.d x] ∧ (∀ s, x = .str s → s.length ≤ 1000) ∧ O (.ret (.b (isName x)) μ)
theorem lay0_bools : ∀ bs : List Bool, PyData.canLayAll0 (bs.map .bool) = true
  | [] => rfl
  | b :: bs => by rw [List.map_cons, PyData.canLayAll0, lay0_bools bs]; rfl
theorem dep_bools : ∀ bs : List Bool, PyData.depthAll (bs.map .bool) = 0
  | [] => rfl
  | b :: bs => by rw [List.map_cons, PyData.depthAll, dep_bools bs]; rfl
theorem lay_bools (bs : List Bool) : SeqAt.shaped (.list (bs.map .bool)) = true := by
  unfold SeqAt.shaped
  rw [Bool.and_eq_true]
  refine ⟨lay0_bools bs, decide_eq_true ?_⟩
  have := dep_bools bs
  show PyData.depthAll (bs.map .bool) + 1 ≤ 64
  omega
theorem any_bools (b : Bool) : ∀ bs : List Bool, ((bs.map PyData.bool).any fun z => PyData.eqv z (.bool b)) = bs.any (· == b)
  | [] => rfl
  | c :: bs => by rw [List.map_cons, List.any_cons, List.any_cons, any_bools b bs]; cases b <;> cases c <;> rfl
theorem at0 {s : Str} (h : 1 ≤ s.length) : atI s.cps.toList 0 = some (s.cps.getD 0 0) := by
  have h' : 0 < s.cps.size := h
  unfold atI ixN
  rw [if_pos (by decide), if_pos (by rw [Array.length_toList]; omega)]
  show s.cps.toList[0]? = _
  rw [Array.getElem?_toList, Array.getElem?_eq_getElem h', Array.getD_eq_getD_getElem?, Array.getElem?_eq_getElem h']
  rfl
theorem ok_is_name {K : PySem.W.Frag} {mg : Str → Option Value} {base : Heap} {a : Ad} (T : Txt K mg a) : FnOk Wd.P Wd.w K mg base (L2.CX Wd.P Wd.w) 1 a.f_is_name a.d_is_name ["value"] (spOf K 1 phName) := by
  refine def_ok T.f_is_name sc_is_name rfl fun cdv A outer s H E hr => ?_
  have hu := hr.units
  have hu5 := room65 hr
  refine ⟨_, (pss_cons (ps_if (PW.pt (pw_or (pt_not (pt_tr (pe_callB call_isi rfl T.z_isinstance (by decide +kernel) (pa_cons (pv 0) (pa_cons (pe_bltn (v := .ty "str") (u := .type "str") rfl T.z_str (by decide +kernel) rfl) pa_nil))))) (pw_or (pt_not (pt_chain (op_leV hu) (op_leV hu) pe_int (pe_callB call_lenU rfl T.z_len (by decide +kernel) (pa_cons (pv 0) pa_nil)) (pe_glob rfl T.g_MOST_WORD T.r_MOST_WORD))) (pw_or1 (pt_cmpR (op_niU (by exact ⟨rfl, rfl⟩) hu5) (pe_ix (ix_U (by exact ⟨rfl, rfl⟩) hu) (pv 0) pe_int (fun _ _ => rfl)) (pe_glob rfl T.g_LETTERS T.r_LETTERS) (by rfl)))))) (pss_one (ps_ret pe_bl)) pss_nil)
    (pss_one (ps_ret (pe_cmpR (op_niU (by exact ⟨rfl, rfl⟩) hu5) pe_bl (pe_lc (own := [("sign", 1)]) (g := (gName 1)) (tt := tYes) (te := (tOp (rInU K) (tVar 1) (tC (.str "abcdefghijklmnopqrstuvwxyz0123456789_")))) rfl sc_is_name.nd (by exact (pi_seqW (pv 0))) (blkOk_by (own := [("sign", 1)]) (N := ["value", "sign"]) (sc := defScope s_is_name) (by decide +kernel)) (fun _ _ _ _ _ => by exact (pg_name (i := 1) sc_is_name.nd rfl (Or.inl rfl))) (fun _ _ _ _ _ => by exact pts_nil) (fun _ _ _ _ _ => by exact (pe_cmpR (op_inU (by exact ⟨rfl, rfl⟩) hu5) (pv 1) (pe_glob rfl T.g_LATER T.r_LATER) (by rfl)))) (by rfl))))), ?_⟩
  try dsimp only [cxOf_K]
  rintro ws μ O ⟨x, rfl, hx, hO⟩ _ _
  change St K _ _ [some _, none] _ _
  by_cases hstr : isaStr x = true
  · cases x with
    | str s =>
      have hz : s.length ≤ 1000 := hx s rfl
      have hz2 : s.length ≤ sizeLine := Nat.le_trans hz (by decide)
      refine st_seq (st_if0 (b := !(decide (1 ≤ (s.length : Int)) && decide ((s.length : Int) ≤ 40) && decide (s.cps.getD 0 0 ∈ LET.cps.toList))) ?_ (fun h => ?_) fun h => ?_)
      · have e1 : EvT K (tNot (tTr K (tCB (rIsi K) (tCons (tVar 0) (tCons (tC (V.ty "str")) tNil))))) [some (.d (.str s)), none] μ false μ := et_is (et_not (a := isaStr (.str s)) (et_tr (w := .b (isaStr (.str s))) (by walk_at "e") (.b _))) rfl
        have e2 : EvT K (tNot (tTest (tChain (rLeU K) (rLeU K) (tC (V.int 1)) (tCB (rLenU K) (tCons (tVar 0) tNil)) (tC (V.int 40))))) [some (.d (.str s)), none] μ (!(decide (1 ≤ (s.length : Int)) && decide ((s.length : Int) ≤ 40))) μ := et_not (et_test (ev_leLeV ev_int (ev_cb (ea_cons (ev_var rfl) ea_nil) (rc_lenS hz2)) ev_int))
        have e3 : 1 ≤ s.length → EvT K (tTest (tOp (rNiU K) (tOp (rIxU K) (tVar 0) (tC (V.int 0))) (tC (V.str LET)))) [some (.d (.str s)), none] μ (!decide (s.cps.getD 0 0 ∈ LET.cps.toList)) μ := fun h1 =>
          et_test (ev_op (ev_op (ev_var rfl) ev_int (rv_ixC hz2 (at0 h1))) ev_str rv_niC)
        have e4 := et_or0 e2 (b := !decide (s.cps.getD 0 0 ∈ LET.cps.toList)) fun h => e3 (by
          have h' : decide (1 ≤ (s.length : Int)) = true := by
            cases hd : decide (1 ≤ (s.length : Int)) with
            | true => rfl
            | false => rw [hd] at h; cases h
          have := of_decide_eq_true h'
          omega)
        have e5 := et_or0 e1 fun _ => e4
        have e6 : (false || (!(decide (1 ≤ (s.length : Int)) && decide ((s.length : Int) ≤ 40)) || !decide (s.cps.getD 0 0 ∈ LET.cps.toList))) = !(decide (1 ≤ (s.length : Int)) && decide ((s.length : Int) ≤ 40) && decide (s.cps.getD 0 0 ∈ LET.cps.toList)) := by
          rw [Bool.false_or]
          exact (Bool.not_and _ _).symm
        exact et_is e5 e6
      · refine st_ret ev_bl (.inl ?_)
        have : isName (.str s) = false := by
          show isNameS s = false
          unfold isNameS
          rw [Bool.not_eq_true'] at h
          rw [h]; rfl
        rw [this] at hO
        exact hO
      · refine st_next ?_
        show St _ _ _ _ _ _
        have hl : Ev K (tLc (iSeqW K (tVar 0)) (gName 1) tYes (tOp (rInU K) (tVar 1) (tC (V.str LAT))) [1]) [some (.s s), none] μ (.d (.list ((s.cps.toList.map fun c => decide (c ∈ LAT.cps.toList)).map .bool))) μ := by
          refine ev_is (ev_lcM (f := fun w => match w with | .d (.str z) => .bool (decide (z.cps.getD 0 0 ∈ LAT.cps.toList)) | _ => .none) (ei_wS (ev_var rfl)) mg_name (tg_name (by decide)) (by unfold DL.signs; rw [List.length_map, List.length_map, Array.length_toList]; exact hz2) trivial fun i w hw => ?_) ?_
          · unfold DL.signs at hw
            rw [List.map_map, List.getElem?_map] at hw
            obtain ⟨c, hc, rfl⟩ := Option.map_eq_some_iff.mp hw
            exact ⟨_, eg_name, et_nil, ev_op (ev_var rfl) ev_str rv_inC⟩
          · unfold DL.signs
            generalize LAT.cps.toList = L
            rw [List.map_map, List.map_map, List.map_map]
            rfl
        refine st_ret (ev_op ev_bl hl (rv_niL (.d _) (by decide) (lay_bools _))) (.inl ?_)
        rw [any_bools]
        have : isName (.str s) = !((s.cps.toList.map fun c => decide (c ∈ LAT.cps.toList)).any fun x => x == false) := by
          show isNameS s = _
          unfold isNameS
          rw [Bool.not_eq_false'] at h
          rw [h, Bool.true_and]
          generalize LAT.cps.toList = L
          rw [List.any_map]
          induction s.cps.toList with
          | nil => rfl
          | cons c cs ih =>
            rw [List.all_cons, List.any_cons, ih]
            show (decide (c ∈ L) && _) = !((decide (c ∈ L) == false) || _)
            cases decide (c ∈ L) <;> simp
        rw [this] at hO
        exact hO
    | _ => cases hstr
  · have e : isaStr x = false := by simpa using hstr
    refine st_seq (st_if0 (b := true) ?_ (fun h => ?_) fun h => nomatch h)
    · refine et_is (et_or0 (a := true) (b := true) (et_is (et_not (a := isaStr x) (et_tr (w := .b (isaStr x)) (by walk_at "e") (.b _))) (by rw [e]; rfl)) fun h => nomatch h) rfl
    · refine st_ret ev_bl (.inl ?_)
      have : isName x = false := by
        cases x with
        | str s => cases e
        | _ => rfl
      rw [this] at hO
      exact hO
def isValue (x : PyData) : Bool := isNumber x || isName x
def phValue : DL.Spec := fun ws μ O => ∃ x, ws = [.d x] ∧ (∀ s, x = .str s → s.length ≤ 1000) ∧ O (.ret (.b (isValue x)) μ)
theorem ok_is_value {K : PySem.W.Frag} {mg : Str → Option Value} {base : Heap} {a : Ad} (T : Txt K mg a) : FnOk Wd.P Wd.w K mg base (L2.CX Wd.P Wd.w) 2 a.f_is_value a.d_is_value ["value"] (spOf K 1 phValue) := by
  refine def_ok T.f_is_value sc_is_value rfl fun cdv A outer s H E hr => ?_
  have hu := hr.units
  have hu5 := room65 hr
  refine ⟨_, (pss_one (ps_ret (pe_or (by exact (pe_callU (ok_is_number T) (hr.mono (by decide)) rfl T.g_is_number T.f_is_number.kp T.b_is_number (takes_of rfl rfl rfl rfl) (by exact (pa_cons (pv 0) pa_nil)))) (pe_one (by exact (pe_callU (ok_is_name T) (hr.mono (by decide)) rfl T.g_is_name T.f_is_name.kp T.b_is_name (takes_of rfl rfl rfl rfl) (by exact (pa_cons (pv 0) pa_nil)))))))), ?_⟩
  try dsimp only [cxOf_K]
  rintro ws μ O ⟨x, rfl, hx, hO⟩ _ _
  change St K _ _ [some _] _ _
  refine st_ret (w := .b (isValue x)) (μ1 := μ) ?_ (.inl hO)
  refine ev_is (ev_orV (a := isNumber x) (b := isName x) (ev_call (ws := [.d x]) (μ1 := μ) (by walk_at "e") rfl ⟨x, rfl, rfl⟩) fun h => (ev_call (ws := [.d x]) (μ1 := μ) (by walk_at "e") rfl ⟨x, rfl, hx, rfl⟩)) rfl


end Mine
set_option Elab.async false
set_option linter.all false
set_option maxRecDepth 100000
set_option maxHeartbeats 4000000
namespace Mine
open PySem PySem.Spec PyProof.Rows L2 DL
variable [Wd]

local macro_rules | `(tactic| walk_at "e") => `(tactic| first
  | with_reducible exact ev_int
  | with_reducible exact ev_bl
  | with_reducible exact ev_str
  | with_reducible exact ev_non
  | ((with_reducible apply ev_var); rfl)
  | with_reducible exact ea_nil
  | with_reducible exact et_nil
  | with_reducible exact eo_no
  | with_reducible exact rv_addVI
  | with_reducible exact rv_subI
  | with_reducible exact rv_ltV
  | with_reducible exact rv_leV
  | with_reducible exact rv_gtV
  | with_reducible exact rv_geV
  | with_reducible exact rv_eqI
  | with_reducible exact rv_neI
  | with_reducible exact rv_isB
  | with_reducible exact rv_notB
  | ((with_reducible apply rv_modI); first | assumption | omega | skip)
  | ((with_reducible apply rv_divI); first | assumption | (constructor <;> omega) | skip)
  | with_reducible exact ru_I
  | with_reducible exact rc_abs
  | with_reducible exact rc_int
  | with_reducible exact rs_tup
  | with_reducible exact Tru.b _
  | with_reducible exact Tru.n
  | with_reducible exact DL.Seq.t _
  | with_reducible exact DL.Seq.l (Its.d _)
  | with_reducible exact Its.d _
  | with_reducible exact Sees.d _
  | ((with_reducible apply DL.Seq.l); (with_reducible apply DL.Its.p); assumption)
  | ((with_reducible apply DL.Its.p); assumption)
  | (with_reducible apply ev_op) <;> walk_at "e"
  | (with_reducible apply ev_un) <;> walk_at "e"
  | (with_reducible apply ea_cons) <;> walk_at "e"
  | (with_reducible apply ev_cb) <;> walk_at "e"
  | (with_reducible apply et_test) <;> walk_at "e"
  | (with_reducible apply et_not) <;> walk_at "e"
  | (with_reducible apply et_tr) <;> walk_at "e"
  | (with_reducible apply ev_notT) <;> walk_at "e"
  | (with_reducible apply eo_some) <;> walk_at "e"
  | ((with_reducible apply rv_ixQ) <;> first | ((with_reducible show atW _ _ = some _); rfl) | walk_at "e")
  | with_reducible exact rc_isint
  | with_reducible exact rc_isbool
  | with_reducible exact rc_isstr
  | with_reducible exact rc_istuple
  | with_reducible exact rc_islist
  | (with_reducible apply rc_len) <;> walk_at "e"
  | (with_reducible apply ev_fld) <;> walk_at "e"
  | (with_reducible apply ev_sl) <;> walk_at "e"
  
  | with_reducible exact ev_raw
  | with_reducible assumption
  | with_reducible rfl
  | skip)

/-! ### the order of values -/
def ord1 (x : PyData) : PyData := if isaStr x = true then .tuple [.int 1, .int 0, x] else .tuple [.int 0, x, .str ""]
def ordD (xs : List PyData) : PyData := .tuple (xs.map ord1)
def unD : W → PyData
  | .d x => x
  | _ => .none
def phOrder : DL.Spec := fun ws μ O => ∃ y xs, ws = [.d y] ∧ (y = .list xs ∨ y = .tuple xs) ∧ xs.length ≤ 1000 ∧ O (.ret (.d (ordD xs)) μ)
theorem ord_walk {K : PySem.W.Frag} {μ : Mu} {y : PyData} {xs : List PyData} (hy : y = .list xs ∨ y = .tuple xs) (hz : xs.length ≤ 1000) :
    Ev K (tLc (iSeqW K (tVar 0)) (gName 1) tYes (tIf (tTr K (tCB (rIsi K) (tCons (tVar 1) (tCons (tC (V.ty "str")) tNil)))) (tTup (tCons (tC (V.int 1)) (tCons (tC (V.int 0)) (tCons (tVar 1) tNil)))) (tTup (tCons (tC (V.int 0)) (tCons (tVar 1) (tCons (tC (V.str "")) tNil))))) [1])
      [some (.d y), none] μ (.d (.list (xs.map ord1))) μ := by
  have hzz : (xs.map W.d).length ≤ sizeLine := by rw [List.length_map]; exact Nat.le_trans hz (by decide)
  refine ev_is (ev_lcM (f := fun w => ord1 (unD w)) (ei_wD (ev_var rfl) hy) mg_name (tg_name (by decide)) hzz trivial fun i w hw => ?_) ?_
  · rw [List.getElem?_map] at hw
    obtain ⟨x, hx, rfl⟩ := Option.map_eq_some_iff.mp hw
    refine ⟨_, eg_name, et_nil, ?_⟩
    have ht : EvT K (tTr K (tCB (rIsi K) (tCons (tVar 1) (tCons (tC (V.ty "str")) tNil)))) [some (.d y), some (.d x)] μ (isaStr x) μ := et_tr (w := .b (isaStr x)) (by walk_at "e") (.b _)
    have h1 : Ev K (tTup (tCons (tC (V.int 1)) (tCons (tC (V.int 0)) (tCons (tVar 1) tNil)))) [some (.d y), some (.d x)] μ (.d (.tuple [.int 1, .int 0, x])) μ := ev_tup (xs := [.int 1, .int 0, x]) (ea_cons ev_int (ea_cons ev_int (ea_cons (ev_var rfl) ea_nil))) rfl (by show 3 ≤ sizeLine; decide)
    have h2 : Ev K (tTup (tCons (tC (V.int 0)) (tCons (tVar 1) (tCons (tC (V.str "")) tNil)))) [some (.d y), some (.d x)] μ (.d (.tuple [.int 0, x, .str ""])) μ := ev_tup (xs := [.int 0, x, .str ""]) (ea_cons ev_int (ea_cons (ev_var rfl) (ea_cons ev_str ea_nil))) rfl (by show 3 ≤ sizeLine; decide)
    refine ev_if ht (fun h => ?_) fun h => ?_
    · have : ord1 x = .tuple [.int 1, .int 0, x] := if_pos h
      show Ev K _ _ μ (.d (ord1 x)) μ
      rw [this]
      exact h1
    · have : ord1 x = .tuple [.int 0, x, .str ""] := if_neg (by rw [h]; exact Bool.false_ne_true)
      show Ev K _ _ μ (.d (ord1 x)) μ
      rw [this]
      exact h2
  · rw [List.map_map]
    rfl
theorem ok_order {K : PySem.W.Frag} {mg : Str → Option Value} {base : Heap} {a : Ad} (T : Txt K mg a) : FnOk Wd.P Wd.w K mg base (L2.CX Wd.P Wd.w) 1 a.f_order a.d_order ["values"] (spOf K 1 phOrder) := by
  refine def_ok T.f_order sc_order rfl fun cdv A outer s H E hr => ?_
  have hu := hr.units
  have hu5 := room65 hr
  refine ⟨_, (pss_one (ps_ret (pe_callTy call_tupU rfl T.z_tuple (by decide +kernel) (pa_cons (pe_lc (own := [("value", 1)]) (g := (gName 1)) (tt := tYes) (te := (tIf (tTr K (tCB (rIsi K) (tCons (tVar 1) (tCons (tC (.ty "str")) tNil)))) (tTup (tCons (tC (.int 1)) (tCons (tC (.int 0)) (tCons (tVar 1) tNil)))) (tTup (tCons (tC (.int 0)) (tCons (tVar 1) (tCons (tC (.str "")) tNil)))))) rfl sc_order.nd (by exact (pi_seqW (pv 0))) (blkOk_by (own := [("value", 1)]) (N := ["values", "value"]) (sc := defScope s_order) (by decide +kernel)) (fun _ _ _ _ _ => by exact (pg_name (i := 1) sc_order.nd rfl (Or.inl rfl))) (fun _ _ _ _ _ => by exact pts_nil) (fun _ _ _ _ _ => by exact (pe_ifExp (pt_tr (pe_callB call_isi rfl T.z_isinstance (by decide +kernel) (pa_cons (pv 1) (pa_cons (pe_bltn (v := .ty "str") (u := .type "str") rfl T.z_str (by decide +kernel) rfl) pa_nil)))) (pe_tup (pa_cons pe_int (pa_cons pe_int (pa_cons (pv 1) pa_nil)))) (pe_tup (pa_cons pe_int (pa_cons (pv 1) (pa_cons pe_str pa_nil))))))) pa_nil)))), ?_⟩
  try dsimp only [cxOf_K]
  rintro ws μ O ⟨y, xs, rfl, hy, hz, hO⟩ _ _
  change St K _ _ [some _, none] _ _
  exact DL.st_ret (ev_cb (ea_cons (ord_walk hy hz) ea_nil) (rc_tup (.l (.d _)))) (.inl hO)


end Mine
set_option Elab.async false
set_option linter.all false
set_option maxRecDepth 100000
set_option maxHeartbeats 4000000
namespace Mine
open PySem PySem.Spec PyProof.Rows L2 DL
variable [Wd]

local macro_rules | `(tactic| walk_at "e") => `(tactic| first
  | with_reducible exact ev_int
  | with_reducible exact ev_bl
  | with_reducible exact ev_str
  | with_reducible exact ev_non
  | ((with_reducible apply ev_var); rfl)
  | with_reducible exact ea_nil
  | with_reducible exact et_nil
  | with_reducible exact eo_no
  | with_reducible exact rv_addVI
  | with_reducible exact rv_subI
  | with_reducible exact rv_ltV
  | with_reducible exact rv_leV
  | with_reducible exact rv_gtV
  | with_reducible exact rv_geV
  | with_reducible exact rv_eqI
  | with_reducible exact rv_neI
  | with_reducible exact rv_isB
  | with_reducible exact rv_notB
  | ((with_reducible apply rv_modI); first | assumption | omega | skip)
  | ((with_reducible apply rv_divI); first | assumption | (constructor <;> omega) | skip)
  | with_reducible exact ru_I
  | with_reducible exact rc_abs
  | with_reducible exact rc_int
  | with_reducible exact rs_tup
  | with_reducible exact Tru.b _
  | with_reducible exact Tru.n
  | with_reducible exact DL.Seq.t _
  | with_reducible exact DL.Seq.l (Its.d _)
  | with_reducible exact Its.d _
  | with_reducible exact Sees.d _
  | ((with_reducible apply DL.Seq.l); (with_reducible apply DL.Its.p); assumption)
  | ((with_reducible apply DL.Its.p); assumption)
  | (with_reducible apply ev_op) <;> walk_at "e"
  | (with_reducible apply ev_un) <;> walk_at "e"
  | (with_reducible apply ea_cons) <;> walk_at "e"
  | (with_reducible apply ev_cb) <;> walk_at "e"
  | (with_reducible apply et_test) <;> walk_at "e"
  | (with_reducible apply et_not) <;> walk_at "e"
  | (with_reducible apply et_tr) <;> walk_at "e"
  | (with_reducible apply ev_notT) <;> walk_at "e"
  | (with_reducible apply eo_some) <;> walk_at "e"
  | ((with_reducible apply rv_ixQ) <;> first | ((with_reducible show atW _ _ = some _); rfl) | walk_at "e")
  | with_reducible exact rc_isint
  | with_reducible exact rc_isbool
  | with_reducible exact rc_isstr
  | with_reducible exact rc_istuple
  | with_reducible exact rc_islist
  | (with_reducible apply rc_len) <;> walk_at "e"
  | (with_reducible apply ev_fld) <;> walk_at "e"
  | (with_reducible apply ev_sl) <;> walk_at "e"
  
  | with_reducible exact ev_raw
  | with_reducible assumption
  | with_reducible rfl
  | skip)

/-! ### texts of rules -/
def sgn (c : Nat) : PyData := .str ⟨#[c]⟩
/-- a sign that may not stand in a rule -/
def badSign (c : Nat) : Bool := !(!PySem.W.dataLt (sgn c) (.str " ") && !PySem.W.dataLt (.str "~") (sgn c)) || decide ((c : Int) = 37)
def isRuleS (s : Str) : Bool := decide (1 ≤ (s.length : Int)) && decide ((s.length : Int) ≤ 400) && ((s.cps.toList.filter badSign).map sgn).isEmpty
def isRule (x : PyData) : Bool := match x with
  | .str s => isRuleS s
  | _ => false
def phRule : DL.Spec := fun ws μ O => ∃ x, ws = [.d x] ∧ (∀ s, x = .str s → s.length ≤ 1000) ∧ O (.ret (.b (isRule x)) μ)
theorem bad_walk {K : PySem.W.Frag} {μ : Mu} {s : Str} (hz : s.length ≤ 1000) : Ev K (tLc (iSeqW K (tVar 0)) (gName 1) (tOr (tNot (tTest (tChain (rLeU K) (rLeU K) (tC (V.str " ")) (tVar 1) (tC (V.str "~"))))) (tTest (tOp (rEqA K) (tCB rOrd (tCons (tVar 1) tNil)) (tC (V.int 37))))) (tVar 1) [1])
    [some (.s s), none] μ (.d (.list ((s.cps.toList.filter badSign).map sgn))) μ := by
  have hzz : ((DL.signs s).map W.s).length ≤ sizeLine := by unfold DL.signs; rw [List.length_map, List.length_map, Array.length_toList]; exact Nat.le_trans hz (by decide)
  let cOf : W → Nat := fun w => match w with | .d (.str z) => z.cps.getD 0 0 | _ => 0
  refine ev_is (ev_lcF (f := fun w => sgn (cOf w)) (p := fun w => badSign (cOf w)) (ei_wS (ev_var rfl)) mg_name (tg_name (by decide)) hzz trivial fun i w hw => ?_) ?_
  · unfold DL.signs at hw
    rw [List.map_map, List.getElem?_map] at hw
    obtain ⟨c, hc, rfl⟩ := Option.map_eq_some_iff.mp hw
    have h1 : Ev K (tChain (rLeU K) (rLeU K) (tC (V.str " ")) (tVar 1) (tC (V.str "~"))) [some (.s s), some (.s ⟨#[c]⟩)] μ (.b (!PySem.W.dataLt (sgn c) (.str " ") && !PySem.W.dataLt (.str "~") (sgn c))) μ :=
      ev_chain ev_str (ev_var rfl) (rv_leD (a := .str " ") (b := sgn c) rfl (fun h => nomatch h) (by decide)) (fun _ => ev_str) fun _ => rv_leD (a := sgn c) (b := .str "~") rfl (fun h => nomatch h) (show 0 ≤ 32 by decide)
    have h2 : Ev K (tOp (rEqA K) (tCB rOrd (tCons (tVar 1) tNil)) (tC (V.int 37))) [some (.s s), some (.s ⟨#[c]⟩)] μ (.b (decide ((c : Int) = 37))) μ := ev_op (ev_cb (ea_cons (ev_var rfl) ea_nil) rc_ord) ev_int rv_eqI
    exact ⟨_, eg_name, et_or0 (et_not (et_test h1)) fun _ => et_test h2, fun _ => ev_var rfl⟩
  · unfold DL.signs
    rw [List.map_map, List.filter_map, List.map_map]
    rfl
theorem ok_is_rule_text {K : PySem.W.Frag} {mg : Str → Option Value} {base : Heap} {a : Ad} (T : Txt K mg a) : FnOk Wd.P Wd.w K mg base (L2.CX Wd.P Wd.w) 1 a.f_is_rule_text a.d_is_rule_text ["value"] (spOf K 1 phRule) := by
  refine def_ok T.f_is_rule_text sc_is_rule_text rfl fun cdv A outer s H E hr => ?_
  have hu := hr.units
  have hu5 := room65 hr
  refine ⟨_, (pss_cons (ps_if (PW.pt (pw_or (pt_not (pt_tr (pe_callB call_isi rfl T.z_isinstance (by decide +kernel) (pa_cons (pv 0) (pa_cons (pe_bltn (v := .ty "str") (u := .type "str") rfl T.z_str (by decide +kernel) rfl) pa_nil))))) (pw_or1 (pt_not (pt_chain (op_leV hu) (op_leV hu) pe_int (pe_callB call_lenU rfl T.z_len (by decide +kernel) (pa_cons (pv 0) pa_nil)) (pe_glob rfl T.g_LONGEST T.r_LONGEST)))))) (pss_one (ps_ret pe_bl)) pss_nil)
    (pss_one (ps_ret (pe_notT (pe_lc (own := [("sign", 1)]) (g := (gName 1)) (tt := (tOr (tNot (tTest (tChain (rLeU K) (rLeU K) (tC (.str " ")) (tVar 1) (tC (.str "~"))))) (tTest (tOp (rEqA K) (tCB rOrd (tCons (tVar 1) tNil)) (tC (.int 37)))))) (te := (tVar 1)) rfl sc_is_rule_text.nd (by exact (pi_seqW (pv 0))) (blkOk_by (own := [("sign", 1)]) (N := ["value", "sign"]) (sc := defScope s_is_rule_text) (by decide +kernel)) (fun _ _ _ _ _ => by exact (pg_name (i := 1) sc_is_rule_text.nd rfl (Or.inl rfl))) (fun _ _ _ _ _ => by exact (pts_one (PW.pt (pw_or (pt_not (pt_chain (op_leV hu) (op_leV hu) pe_str (pv 1) pe_str)) (pw_or1 (pt_cmpR (op_eqU hu) (pe_callB call_ordU rfl T.z_ord (by decide +kernel) (pa_cons (pv 1) pa_nil)) pe_int (nomark _))))))) (fun _ _ _ _ _ => by exact (pv 1))))))), ?_⟩
  try dsimp only [cxOf_K]
  rintro ws μ O ⟨x, rfl, hx, hO⟩ _ _
  change St K _ _ [some _, none] _ _
  by_cases hstr : isaStr x = true
  · cases x with
    | str s =>
      have hz : s.length ≤ 1000 := hx s rfl
      have hz2 : s.length ≤ sizeLine := Nat.le_trans hz (by decide)
      have e1 : EvT K (tNot (tTr K (tCB (rIsi K) (tCons (tVar 0) (tCons (tC (V.ty "str")) tNil))))) [some (.d (.str s)), none] μ false μ := et_is (et_not (a := isaStr (.str s)) (et_tr (w := .b (isaStr (.str s))) (by walk_at "e") (.b _))) rfl
      have e2 : EvT K (tNot (tTest (tChain (rLeU K) (rLeU K) (tC (V.int 1)) (tCB (rLenU K) (tCons (tVar 0) tNil)) (tC (V.int 400))))) [some (.d (.str s)), none] μ (!(decide (1 ≤ (s.length : Int)) && decide ((s.length : Int) ≤ 400))) μ := et_not (et_test (ev_leLeV ev_int (ev_cb (ea_cons (ev_var rfl) ea_nil) (rc_lenS hz2)) ev_int))
      refine st_seq (st_if0 (et_is (et_or0 e1 fun _ => e2) (Bool.false_or _)) (fun h => ?_) fun h => ?_)
      · refine DL.st_ret ev_bl (.inl ?_)
        have : isRule (.str s) = false := by
          show isRuleS s = false
          unfold isRuleS
          rw [Bool.not_eq_true'] at h
          rw [h]; rfl
        rw [this] at hO
        exact hO
      · refine st_next ?_
        show St _ _ _ _ _ _
        refine DL.st_ret (ev_notT (bad_walk hz) (.q (.l (.d _)))) (.inl ?_)
        have : isRule (.str s) = !!(((s.cps.toList.filter badSign).map sgn).map W.d).isEmpty := by
          show isRuleS s = _
          unfold isRuleS
          rw [Bool.not_eq_false'] at h
          rw [h, Bool.true_and, Bool.not_not]
          simp only [List.isEmpty_map]
        rw [this] at hO
        exact hO
    | _ => cases hstr
  · have e : isaStr x = false := by simpa using hstr
    have e1 : EvT K (tNot (tTr K (tCB (rIsi K) (tCons (tVar 0) (tCons (tC (V.ty "str")) tNil))))) [some (.d x), none] μ true μ := et_is (et_not (a := isaStr x) (et_tr (w := .b (isaStr x)) (by walk_at "e") (.b _))) (by rw [e]; rfl)
    refine st_seq (st_if0 (b := true) (et_is (et_or0 (b := true) e1 fun h => nomatch h) rfl) (fun h => ?_) fun h => nomatch h)
    refine DL.st_ret ev_bl (.inl ?_)
    have : isRule x = false := by
      cases x with
      | str s => cases e
      | _ => rfl
    rw [this] at hO
    exact hO


end Mine
set_option Elab.async false
set_option linter.all false
set_option maxRecDepth 100000
set_option maxHeartbeats 4000000
namespace Mine
open PySem PySem.Spec PyProof.Rows L2 DL
variable [Wd]

local macro_rules | `(tactic| walk_at "e") => `(tactic| first
  | with_reducible exact ev_int
  | with_reducible exact ev_bl
  | with_reducible exact ev_str
  | with_reducible exact ev_non
  | ((with_reducible apply ev_var); rfl)
  | with_reducible exact ea_nil
  | with_reducible exact et_nil
  | with_reducible exact eo_no
  | with_reducible exact rv_addVI
  | with_reducible exact rv_subI
  | with_reducible exact rv_ltV
  | with_reducible exact rv_leV
  | with_reducible exact rv_gtV
  | with_reducible exact rv_geV
  | with_reducible exact rv_eqI
  | with_reducible exact rv_neI
  | with_reducible exact rv_isB
  | with_reducible exact rv_notB
  | ((with_reducible apply rv_modI); first | assumption | omega | skip)
  | ((with_reducible apply rv_divI); first | assumption | (constructor <;> omega) | skip)
  | with_reducible exact ru_I
  | with_reducible exact rc_abs
  | with_reducible exact rc_int
  | with_reducible exact rs_tup
  | with_reducible exact Tru.b _
  | with_reducible exact Tru.n
  | with_reducible exact DL.Seq.t _
  | with_reducible exact DL.Seq.l (Its.d _)
  | with_reducible exact Its.d _
  | with_reducible exact Sees.d _
  | ((with_reducible apply DL.Seq.l); (with_reducible apply DL.Its.p); assumption)
  | ((with_reducible apply DL.Its.p); assumption)
  | (with_reducible apply ev_op) <;> walk_at "e"
  | (with_reducible apply ev_un) <;> walk_at "e"
  | (with_reducible apply ea_cons) <;> walk_at "e"
  | (with_reducible apply ev_cb) <;> walk_at "e"
  | (with_reducible apply et_test) <;> walk_at "e"
  | (with_reducible apply et_not) <;> walk_at "e"
  | (with_reducible apply et_tr) <;> walk_at "e"
  | (with_reducible apply ev_notT) <;> walk_at "e"
  | (with_reducible apply eo_some) <;> walk_at "e"
  | ((with_reducible apply rv_ixQ) <;> first | ((with_reducible show atW _ _ = some _); rfl) | walk_at "e")
  | with_reducible exact rc_isint
  | with_reducible exact rc_isbool
  | with_reducible exact rc_isstr
  | with_reducible exact rc_istuple
  | with_reducible exact rc_islist
  | (with_reducible apply rc_len) <;> walk_at "e"
  | (with_reducible apply ev_fld) <;> walk_at "e"
  | (with_reducible apply ev_sl) <;> walk_at "e"
  
  | with_reducible exact ev_raw
  | with_reducible assumption
  | with_reducible rfl
  | skip)

/-! ### things -/
theorem sh_fact : SeqAt.shaped (.str "fact") = true := by decide +kernel
theorem sh_rule : SeqAt.shaped (.str "rule") = true := by decide +kernel
structure NiceV (z : PyData) : Prop where
  st : ∀ s, z = .str s → s.length ≤ 1000
/-- data whose parts may be looked at -/
structure Nice (x : PyData) : Prop where
  st : ∀ xs, x = .tuple xs → xs.length ≤ 1000 ∧ ∀ y ∈ xs, SeqAt.shaped y = true ∧ NiceV y ∧ ∀ zs, y = .tuple zs → zs.length ≤ 1000 ∧ ∀ z ∈ zs, NiceV z
def valsOk (c : PyData) : Bool := match c with
  | .tuple zs => decide ((zs.length : Int) ≤ 6) && (zs.filter fun z => !isValue z).isEmpty
  | _ => false
def isFactT (x : PyData) : Bool := match x with
  | .tuple [a, b, c] => PyData.eqv a (.str "fact") && isName b && valsOk c
  | _ => false
def phFactT : DL.Spec := fun ws μ O => ∃ x, ws = [.d x] ∧ Nice x ∧ O (.ret (.b (isFactT x)) μ)
theorem e_istup {K : PySem.W.Frag} {μ : Mu} {δ : Dl} {te : TE} {x : PyData} (e : Ev K te δ μ (.d x) μ) : EvT K (tNot (tTr K (tCB (rIsi K) (tCons te (tCons (tC (V.ty "tuple")) tNil))))) δ μ (!isaTuple x) μ :=
  et_not (et_tr (w := .b (isaTuple x)) (ev_cb (ea_cons e (ea_cons ev_raw ea_nil)) rc_istuple) (.b _))
theorem e_len {K : PySem.W.Frag} {μ : Mu} {δ : Dl} {te : TE} {xs : List PyData} (e : Ev K te δ μ (.d (.tuple xs)) μ) : Ev K (tCB (rLenU K) (tCons te tNil)) δ μ (.i (xs.length : Nat)) μ := by
  have := ev_cb (ea_cons e ea_nil) (rc_len (K := K) (μ := μ) (.t xs))
  rw [List.length_map] at this
  exact this
theorem e_at {K : PySem.W.Frag} {μ : Mu} {δ : Dl} {te : TE} {xs : List PyData} {y : PyData} (i : Nat) (e : Ev K te δ μ (.d (.tuple xs)) μ) (h : xs[i]? = some y) : Ev K (tOp (rIxU K) te (tC (V.int i))) δ μ (.d y) μ :=
  ev_op e ev_int (rv_ixQ (DL.Seq.t xs) (atW_nat (by omega) (by rw [Int.toNat_natCast, List.getElem?_map, h]; rfl)))
theorem ok_is_fact_thing {K : PySem.W.Frag} {mg : Str → Option Value} {base : Heap} {a : Ad} (T : Txt K mg a) : FnOk Wd.P Wd.w K mg base (L2.CX Wd.P Wd.w) 3 a.f_is_fact_thing a.d_is_fact_thing ["value"] (spOf K 1 phFactT) := by
  refine def_ok T.f_is_fact_thing sc_is_fact_thing rfl fun cdv A outer s H E hr => ?_
  have hu := hr.units
  have hu5 := room65 hr
  refine ⟨_, (pss_cons (ps_if (PW.pt (pw_or (pt_not (pt_tr (pe_callB call_isi rfl T.z_isinstance (by decide +kernel) (pa_cons (pv 0) (pa_cons (pe_bltn (v := .ty "tuple") (u := .type "tuple") rfl T.z_tuple (by decide +kernel) rfl) pa_nil))))) (pw_or (pt_cmpR (op_neU hu) (pe_callB call_lenU rfl T.z_len (by decide +kernel) (pa_cons (pv 0) pa_nil)) pe_int (nomark _)) (pw_or (pt_cmpR (op_neU hu) (pe_ix (ix_U (by exact ⟨rfl, rfl⟩) hu) (pv 0) pe_int (fun _ _ => rfl)) pe_str (nomark _)) (pw_or1 (pt_not (pt_tr (by exact (pe_callU (ok_is_name T) (hr.mono (by decide)) rfl T.g_is_name T.f_is_name.kp T.b_is_name (takes_of rfl rfl rfl rfl) (by exact (pa_cons (pe_ix (ix_U (by exact ⟨rfl, rfl⟩) hu) (pv 0) pe_int (fun _ _ => rfl)) pa_nil))))))))))) (pss_one (ps_ret pe_bl)) pss_nil)
    (pss_cons (ps_if (PW.pt (pw_or (pt_not (pt_tr (pe_callB call_isi rfl T.z_isinstance (by decide +kernel) (pa_cons (pe_ix (ix_U (by exact ⟨rfl, rfl⟩) hu) (pv 0) pe_int (fun _ _ => rfl)) (pa_cons (pe_bltn (v := .ty "tuple") (u := .type "tuple") rfl T.z_tuple (by decide +kernel) rfl) pa_nil))))) (pw_or1 (pt_cmpR (op_gtV hu) (pe_callB call_lenU rfl T.z_len (by decide +kernel) (pa_cons (pe_ix (ix_U (by exact ⟨rfl, rfl⟩) hu) (pv 0) pe_int (fun _ _ => rfl)) pa_nil)) (pe_glob rfl T.g_MOST_VALUES T.r_MOST_VALUES) (nomark _))))) (pss_one (ps_ret pe_bl)) pss_nil)
    (pss_one (ps_ret (pe_notT (pe_lc (own := [("one", 1)]) (g := (gName 1)) (tt := (tNot (tTr K (tCallS (spOf K 1 phValue) (WE (fun _ _ _ _ => False)) (tCons (tVar 1) tNil))))) (te := (tVar 1)) rfl sc_is_fact_thing.nd (by exact (pi_seqW (pe_ix (ix_U (by exact ⟨rfl, rfl⟩) hu) (pv 0) pe_int (fun _ _ => rfl)))) (blkOk_by (own := [("one", 1)]) (N := ["value", "one"]) (sc := defScope s_is_fact_thing) (by decide +kernel)) (fun _ _ _ _ _ => by exact (pg_name (i := 1) sc_is_fact_thing.nd rfl (Or.inl rfl))) (fun _ _ _ _ _ => by exact (pts_one (pt_not (pt_tr (by exact (pe_callU (ok_is_value T) (hr.mono (by decide)) rfl T.g_is_value T.f_is_value.kp T.b_is_value takes0 (by exact (pa_cons (pv 1) pa_nil)))))))) (fun _ _ _ _ _ => by exact (pv 1)))))))), ?_⟩
  try dsimp only [cxOf_K]
  rintro ws μ O ⟨x, rfl, hx, hO⟩ _ _
  change St K _ _ [some _, none] _ _
  have ex : ∀ {μ : Mu}, Ev K (tVar 0) [some (.d x), none] μ (.d x) μ := ev_var rfl
  have no : isFactT x = false → O (.ret (.b false) μ) := fun h => by rw [h] at hO; exact hO
  cases x with
  | tuple xs =>
    obtain ⟨hl, hy⟩ := hx.st xs rfl
    have t1 := e_istup (K := K) (μ := μ) ex
    have t2 : EvT K (tTest (tOp (rNeA K) (tCB (rLenU K) (tCons (tVar 0) tNil)) (tC (V.int 3)))) [some (.d (.tuple xs)), none] μ (!decide (((xs.length : Nat) : Int) = 3)) μ := et_test (ev_op (e_len ex) ev_int rv_neI)
    by_cases h3 : xs.length = 3
    · obtain ⟨p, q, r, rfl⟩ : ∃ p q r, xs = [p, q, r] := by
        match xs, h3 with
        | [p, q, r], _ => exact ⟨p, q, r, rfl⟩
      have yp := hy p (by simp)
      have yq := hy q (by simp)
      have yr := hy r (by simp)
      have t3 : EvT K (tTest (tOp (rNeA K) (tOp (rIxU K) (tVar 0) (tC (V.int 0))) (tC (V.str "fact")))) [some (.d (.tuple [p, q, r])), none] μ (!PyData.eqv p (.str "fact")) μ := et_test (ev_op (e_at 0 ex rfl) ev_str (rv_neX (.d _) (.d _) yp.1 sh_fact))
      refine st_seq (st_if0 (et_or0 t1 fun _ => et_or0 t2 fun _ => et_or0 t3 fun _ => et_not (et_tr (w := .b (isName q)) (ev_call (n := 1) (ea_cons (e_at 1 ex rfl) ea_nil) rfl ⟨q, rfl, yq.2.1.st, rfl⟩) (.b _))) (fun h => ?_) fun h => ?_)
      · refine DL.st_ret ev_bl (.inl (no ?_))
        show (PyData.eqv p (.str "fact") && isName q && valsOk r) = false
        have h : (!true || (!decide (((3 : Nat) : Int) = 3) || (!PyData.eqv p (.str "fact") || !isName q))) = true := h
        revert h
        cases PyData.eqv p (.str "fact") <;> cases isName q <;> simp
      · refine st_next ?_
        have h' : PyData.eqv p (.str "fact") = true ∧ isName q = true := by
          have h : (!true || (!decide (((3 : Nat) : Int) = 3) || (!PyData.eqv p (.str "fact") || !isName q))) = false := h
          revert h
          cases PyData.eqv p (.str "fact") <;> cases isName q <;> simp
        have fin : isFactT (.tuple [p, q, r]) = valsOk r := by
          show (PyData.eqv p (.str "fact") && isName q && valsOk r) = valsOk r
          rw [h'.1, h'.2]; rfl
        rw [fin] at hO no
        show St _ _ _ _ _ _
        have er : Ev K (tOp (rIxU K) (tVar 0) (tC (V.int 2))) [some (.d (.tuple [p, q, r])), none] μ (.d r) μ := e_at 2 ex rfl
        have s1 := e_istup er
        cases r with
        | tuple zs =>
          obtain ⟨hzl, hzz⟩ := yr.2.2 zs rfl
          have s2 : EvT K (tTest (tOp (rGtU K) (tCB (rLenU K) (tCons (tOp (rIxU K) (tVar 0) (tC (V.int 2))) tNil)) (tC (V.int 6)))) [some (.d (.tuple [p, q, .tuple zs])), none] μ (decide ((6 : Int) < ((zs.length : Nat) : Int))) μ := et_test (ev_op (e_len er) ev_int rv_gtV)
          refine st_seq (st_if0 (et_or0 s1 fun _ => s2) (fun h => ?_) fun h => ?_)
          · refine DL.st_ret ev_bl (.inl (no ?_))
            have h : (!true || decide ((6 : Int) < ((zs.length : Nat) : Int))) = true := h
            have := of_decide_eq_true (show decide ((6 : Int) < ((zs.length : Nat) : Int)) = true by simpa using h)
            show (decide ((zs.length : Int) ≤ 6) && _) = false
            rw [decide_eq_false (by omega)]; rfl
          · refine st_next ?_
            show St _ _ _ _ _ _
            have h : (!true || decide ((6 : Int) < ((zs.length : Nat) : Int))) = false := h
            have h6 : ¬ (6 : Int) < ((zs.length : Nat) : Int) := of_decide_eq_false (by simpa using h)
            have lc := ev_lcF (K := K) (μ := μ) (δ := [some (.d (.tuple [p, q, .tuple zs])), none]) (wi := iSeqW K (tOp (rIxU K) (tVar 0) (tC (V.int 2)))) (tt := tNot (tTr K (tCallS (spOf K 1 phValue) (WE (fun _ _ _ _ => False)) (tCons (tVar 1) tNil)))) (te := tVar 1) (g := gName 1) (vs := [1])
              (f := unD) (p := fun w => !isValue (unD w)) (ei_wT er) mg_name (tg_name (by decide)) (by rw [List.length_map]; exact Nat.le_trans hzl (by decide)) trivial (fun i w hw => by
                rw [List.getElem?_map] at hw
                obtain ⟨z, hz, rfl⟩ := Option.map_eq_some_iff.mp hw
                exact ⟨_, eg_name, et_not (et_tr (ev_call (n := 1) (w := .b (isValue z)) (ea_cons (ev_var rfl) ea_nil) rfl ⟨z, rfl, (hzz z (List.mem_of_getElem? hz)).st, rfl⟩) (.b _)), fun _ => ev_var rfl⟩)
            refine DL.st_ret (ev_notT lc (.q (.l (.d _)))) (.inl ?_)
            have : valsOk (.tuple zs) = !!((((zs.map W.d).filter fun w => !isValue (unD w)).map unD).map W.d).isEmpty := by
              show (decide ((zs.length : Int) ≤ 6) && (zs.filter fun z => !isValue z).isEmpty) = _
              rw [decide_eq_true (by omega), Bool.true_and, Bool.not_not]
              simp only [List.isEmpty_map]
              rw [List.filter_map, List.isEmpty_map]
              rfl
            rw [this] at hO
            exact hO
        | _ =>
          refine st_seq (st_if0 (b := true) (et_is (et_or0 (b := true) s1 fun h => nomatch h) rfl) (fun h => ?_) fun h => nomatch h)
          exact DL.st_ret ev_bl (.inl (no rfl))
    · have hf : isFactT (.tuple xs) = false := by
        match xs, h3 with
        | [], _ => rfl
        | [_], _ => rfl
        | [_, _], _ => rfl
        | [_, _, _], h => exact absurd rfl h
        | _ :: _ :: _ :: _ :: _, _ => rfl
      have t2' : EvT K (tTest (tOp (rNeA K) (tCB (rLenU K) (tCons (tVar 0) tNil)) (tC (V.int 3)))) [some (.d (.tuple xs)), none] μ true μ := et_is t2 (by rw [decide_eq_false (by omega)]; rfl)
      refine st_seq (st_if0 (b := true) (et_is (et_or0 t1 fun _ => et_or0 (b := true) t2' fun h => nomatch h) rfl) (fun h => ?_) fun h => nomatch h)
      exact DL.st_ret ev_bl (.inl (no hf))
  | _ =>
    refine st_seq (st_if0 (b := true) (et_is (et_or0 (b := true) (e_istup (K := K) (μ := μ) ex) fun h => nomatch h) rfl) (fun h => ?_) fun h => nomatch h)
    exact DL.st_ret ev_bl (.inl (no rfl))


end Mine
set_option Elab.async false
set_option linter.all false
set_option maxRecDepth 100000
set_option maxHeartbeats 4000000
namespace Mine
open PySem PySem.Spec PyProof.Rows L2 DL
variable [Wd]

local macro_rules | `(tactic| walk_at "e") => `(tactic| first
  | with_reducible exact ev_int
  | with_reducible exact ev_bl
  | with_reducible exact ev_str
  | with_reducible exact ev_non
  | ((with_reducible apply ev_var); rfl)
  | with_reducible exact ea_nil
  | with_reducible exact et_nil
  | with_reducible exact eo_no
  | with_reducible exact rv_addVI
  | with_reducible exact rv_subI
  | with_reducible exact rv_ltV
  | with_reducible exact rv_leV
  | with_reducible exact rv_gtV
  | with_reducible exact rv_geV
  | with_reducible exact rv_eqI
  | with_reducible exact rv_neI
  | with_reducible exact rv_isB
  | with_reducible exact rv_notB
  | ((with_reducible apply rv_modI); first | assumption | omega | skip)
  | ((with_reducible apply rv_divI); first | assumption | (constructor <;> omega) | skip)
  | with_reducible exact ru_I
  | with_reducible exact rc_abs
  | with_reducible exact rc_int
  | with_reducible exact rs_tup
  | with_reducible exact Tru.b _
  | with_reducible exact Tru.n
  | with_reducible exact DL.Seq.t _
  | with_reducible exact DL.Seq.l (Its.d _)
  | with_reducible exact Its.d _
  | with_reducible exact Sees.d _
  | ((with_reducible apply DL.Seq.l); (with_reducible apply DL.Its.p); assumption)
  | ((with_reducible apply DL.Its.p); assumption)
  | (with_reducible apply ev_op) <;> walk_at "e"
  | (with_reducible apply ev_un) <;> walk_at "e"
  | (with_reducible apply ea_cons) <;> walk_at "e"
  | (with_reducible apply ev_cb) <;> walk_at "e"
  | (with_reducible apply et_test) <;> walk_at "e"
  | (with_reducible apply et_not) <;> walk_at "e"
  | (with_reducible apply et_tr) <;> walk_at "e"
  | (with_reducible apply ev_notT) <;> walk_at "e"
  | (with_reducible apply eo_some) <;> walk_at "e"
  | ((with_reducible apply rv_ixQ) <;> first | ((with_reducible show atW _ _ = some _); rfl) | walk_at "e")
  | with_reducible exact rc_isint
  | with_reducible exact rc_isbool
  | with_reducible exact rc_isstr
  | with_reducible exact rc_istuple
  | with_reducible exact rc_islist
  | (with_reducible apply rc_len) <;> walk_at "e"
  | (with_reducible apply ev_fld) <;> walk_at "e"
  | (with_reducible apply ev_sl) <;> walk_at "e"
  
  | with_reducible exact ev_raw
  | with_reducible assumption
  | with_reducible rfl
  | skip)

def isRuleT (x : PyData) : Bool := match x with
  | .tuple [a, b] => PyData.eqv a (.str "rule") && isRule b
  | _ => false
def isThing (x : PyData) : Bool := isFactT x || isRuleT x
def phThing : DL.Spec := fun ws μ O => ∃ x, ws = [.d x] ∧ Nice x ∧ O (.ret (.b (isThing x)) μ)
theorem ok_is_thing {K : PySem.W.Frag} {mg : Str → Option Value} {base : Heap} {a : Ad} (T : Txt K mg a) : FnOk Wd.P Wd.w K mg base (L2.CX Wd.P Wd.w) 4 a.f_is_thing a.d_is_thing ["value"] (spOf K 1 phThing) := by
  refine def_ok T.f_is_thing sc_is_thing rfl fun cdv A outer s H E hr => ?_
  have hu := hr.units
  have hu5 := room65 hr
  refine ⟨_, (pss_cons (ps_if (pt_tr (by exact (pe_callU (ok_is_fact_thing T) (hr.mono (by decide)) rfl T.g_is_fact_thing T.f_is_fact_thing.kp T.b_is_fact_thing (takes_of rfl rfl rfl rfl) (by exact (pa_cons (pv 0) pa_nil))))) (pss_one (ps_ret pe_bl)) pss_nil)
    (pss_one (ps_ret (pe_and (pe_callB call_isi rfl T.z_isinstance (by decide +kernel) (pa_cons (pv 0) (pa_cons (pe_bltn (v := .ty "tuple") (u := .type "tuple") rfl T.z_tuple (by decide +kernel) rfl) pa_nil))) (pe_and (pe_cmpR (op_eqU hu) (pe_callB call_lenU rfl T.z_len (by decide +kernel) (pa_cons (pv 0) pa_nil)) pe_int (nomark _)) (pe_and (pe_cmpR (op_eqU hu) (pe_ix (ix_U (by exact ⟨rfl, rfl⟩) hu) (pv 0) pe_int (fun _ _ => rfl)) pe_str (nomark _)) (pe_one (by exact (pe_callU (ok_is_rule_text T) (hr.mono (by decide)) rfl T.g_is_rule_text T.f_is_rule_text.kp T.b_is_rule_text (takes_of rfl rfl rfl rfl) (by exact (pa_cons (pe_ix (ix_U (by exact ⟨rfl, rfl⟩) hu) (pv 0) pe_int (fun _ _ => rfl)) pa_nil))))))))))), ?_⟩
  try dsimp only [cxOf_K]
  rintro ws μ O ⟨x, rfl, hx, hO⟩ _ _
  change St K _ _ [some _] _ _
  have ex : ∀ {μ : Mu}, Ev K (tVar 0) [some (.d x)] μ (.d x) μ := ev_var rfl
  refine st_seq (st_if0 (b := isFactT x) (et_tr (w := .b (isFactT x)) (ev_call (n := 1) (ea_cons ex ea_nil) rfl ⟨x, rfl, hx, rfl⟩) (.b _)) (fun h => ?_) fun h => ?_)
  · refine DL.st_ret ev_bl (.inl ?_)
    have : isThing x = true := by unfold isThing; rw [h]; rfl
    rw [this] at hO
    exact hO
  · refine st_next ?_
    show St _ _ _ _ _ _
    have fin : isThing x = isRuleT x := by unfold isThing; rw [h]; rfl
    rw [fin] at hO
    have e0 : Ev K (tCB (rIsi K) (tCons (tVar 0) (tCons (tC (V.ty "tuple")) tNil))) [some (.d x)] μ (.b (isaTuple x)) μ := ev_cb (ea_cons ex (ea_cons ev_raw ea_nil)) rc_istuple
    cases x with
    | tuple xs =>
      obtain ⟨hl, hy⟩ := hx.st xs rfl
      have e1 : Ev K (tOp (rEqA K) (tCB (rLenU K) (tCons (tVar 0) tNil)) (tC (V.int 2))) [some (.d (.tuple xs))] μ (.b (decide (((xs.length : Nat) : Int) = 2))) μ := ev_op (e_len ex) ev_int rv_eqI
      refine DL.st_ret (w := .b (isRuleT (.tuple xs))) (ev_is (ev_andV (a := true) (b := isRuleT (.tuple xs)) e0 fun _ => ?_) rfl) (.inl hO)
      by_cases h2 : xs.length = 2
      · obtain ⟨p, q, rfl⟩ : ∃ p q, xs = [p, q] := by
          match xs, h2 with
          | [p, q], _ => exact ⟨p, q, rfl⟩
        have yp := hy p (by simp)
        have yq := hy q (by simp)
        have e2 : Ev K (tOp (rEqA K) (tOp (rIxU K) (tVar 0) (tC (V.int 0))) (tC (V.str "rule"))) [some (.d (.tuple [p, q]))] μ (.b (PyData.eqv p (.str "rule"))) μ := ev_op (e_at 0 ex rfl) ev_str (rv_eqX (.d _) (.d _) yp.1 sh_rule)
        refine ev_is (ev_andV (a := true) (b := isRuleT (.tuple [p, q])) (ev_is e1 rfl) fun _ => ?_) rfl
        exact ev_andV (a := PyData.eqv p (.str "rule")) (b := isRule q) e2 fun _ => ev_call (n := 1) (ea_cons (e_at 1 ex rfl) ea_nil) rfl ⟨q, rfl, yq.2.1.st, rfl⟩
      · have hf : isRuleT (.tuple xs) = false := by
          match xs, h2 with
          | [], _ => rfl
          | [_], _ => rfl
          | [_, _], h => exact absurd rfl h
          | _ :: _ :: _ :: _, _ => rfl
        refine ev_is (ev_andV (a := false) (b := false) (ev_is e1 (by rw [decide_eq_false (by omega)])) fun h => nomatch h) ?_
        rw [hf]; rfl
    | _ => exact DL.st_ret (w := .b false) (ev_is (ev_andV (a := false) (b := false) e0 fun h => nomatch h) rfl) (.inl hO)
/-! ### keys -/
def valN : PyData → NK
  | .int i => .num i
  | .str s => .text s
  | _ => .none
def ordN1 (z : PyData) : NK := if isaStr z = true then .tup [.num 1, .num 0, valN z] else .tup [.num 0, valN z, .text ""]
def keyN (x : PyData) : List NK := match x with
  | .tuple [_, r, .tuple zs] => [.num 0, valN r, .tup (zs.map ordN1)]
  | .tuple [_, t] => [.num 1, valN t, .tup []]
  | _ => []
/-- what a thing is -/
inductive IsT : PyData → Prop
  | fact (r : Str) (zs : List PyData) : (∀ z ∈ zs, isValue z = true) → zs.length ≤ 6 → isNameS r = true → IsT (.tuple [.str "fact", .str r, .tuple zs])
  | rule (t : Str) : isRuleS t = true → IsT (.tuple [.str "rule", .str t])
theorem eqv_str {a : PyData} {s : Str} (h : PyData.eqv a (.str s) = true) : a = .str s := by
  cases a with
  | str z =>
    have : decide (z = s) = true := by simpa [PyData.eqv] using h
    rw [of_decide_eq_true this]
  | _ => simp [PyData.eqv] at h
theorem isT_of {x : PyData} (h : isThing x = true) : IsT x := by
  unfold isThing at h
  rw [Bool.or_eq_true] at h
  rcases h with h | h
  · unfold isFactT at h
    split at h
    · rename_i a b c
      rw [Bool.and_eq_true, Bool.and_eq_true] at h
      obtain ⟨⟨h1, h2⟩, h3⟩ := h
      have e1 := eqv_str h1
      subst e1
      cases b with
      | str r =>
        cases c with
        | tuple zs =>
          have h3 : (decide ((zs.length : Int) ≤ 6) && (zs.filter fun z => !isValue z).isEmpty) = true := h3
          rw [Bool.and_eq_true] at h3
          refine .fact r zs (fun z hz => ?_) (by have := of_decide_eq_true h3.1; omega) h2
          have := List.filter_eq_nil_iff.mp (List.isEmpty_iff.mp h3.2) z hz
          simpa using this
        | _ => cases h3
      | _ => cases h2
    · cases h
  · unfold isRuleT at h
    split at h
    · rename_i a b
      rw [Bool.and_eq_true] at h
      have e1 := eqv_str h.1
      subst e1
      cases b with
      | str t => exact .rule t h.2
      | _ => cases h.2
    · cases h
theorem datas_map {α : Type} (f : α → NK) : ∀ zs : List α, NestedKey.datas (zs.map f) = zs.map fun z => (f z).data
  | [] => rfl
  | z :: zs => by rw [List.map_cons, NestedKey.datas, datas_map f zs]; rfl
theorem valN_data {z : PyData} (h : isValue z = true) : (valN z).data = z := by
  cases z with
  | int i => rfl
  | str s => rfl
  | _ => cases h
theorem ordN1_data {z : PyData} (h : isValue z = true) : (ordN1 z).data = ord1 z := by
  have e := valN_data h
  unfold ordN1 ord1
  split
  · show PyData.tuple [.int 1, .int 0, (valN z).data] = _
    rw [e]
  · show PyData.tuple [.int 0, (valN z).data, .str ""] = _
    rw [e]
theorem key_fact {r : Str} {zs : List PyData} (h : ∀ z ∈ zs, isValue z = true) : NestedKey.data (.tup (keyN (.tuple [.str "fact", .str r, .tuple zs]))) = .tuple [.int 0, .str r, ordD zs] := by
  show PyData.tuple [.int 0, .str r, .tuple (NestedKey.datas (zs.map ordN1))] = _
  rw [datas_map]
  unfold ordD
  have e : zs.map (fun z => (ordN1 z).data) = zs.map ord1 := List.map_congr_left fun z hz => ordN1_data (h z hz)
  rw [e]
theorem valN_depth (z : PyData) : (valN z).depth = 0 := by cases z <;> rfl
theorem depth_all : ∀ zs : List PyData, NestedKey.depthAll (zs.map ordN1) ≤ 1
  | [] => Nat.zero_le _
  | z :: zs => by
    rw [List.map_cons, NestedKey.depthAll]
    have h1 : NestedKey.depth (ordN1 z) ≤ 1 := by
      unfold ordN1
      split
      · simp only [NestedKey.depth, NestedKey.depthAll, valN_depth]
        decide
      · simp only [NestedKey.depth, NestedKey.depthAll, valN_depth]
        decide
    exact Nat.max_le.mpr ⟨h1, depth_all zs⟩
theorem key_depth {x : PyData} (h : IsT x) : NestedKey.depth (.tup (keyN x)) ≤ 8 := by
  cases h with
  | fact r zs h1 h2 h3 =>
    show NestedKey.depthAll [.num 0, .text r, .tup (zs.map ordN1)] + 1 ≤ 8
    have := depth_all zs
    simp only [NestedKey.depthAll, NestedKey.depth]
    omega
  | rule t h =>
    show NestedKey.depthAll [.num 1, .text t, .tup []] + 1 ≤ 8
    simp only [NestedKey.depthAll, NestedKey.depth]
    decide
def phKey : DL.Spec := fun ws μ O => ∃ x, ws = [.d x] ∧ IsT x ∧ O (.ret (.d (NestedKey.data (.tup (keyN x)))) μ)
theorem ok_key_of {K : PySem.W.Frag} {mg : Str → Option Value} {base : Heap} {a : Ad} (T : Txt K mg a) : FnOk Wd.P Wd.w K mg base (L2.CX Wd.P Wd.w) 2 a.f_key_of a.d_key_of ["thing"] (spOf K 1 phKey) := by
  refine def_ok T.f_key_of sc_key_of rfl fun cdv A outer s H E hr => ?_
  have hu := hr.units
  have hu5 := room65 hr
  refine ⟨_, (pss_cons (ps_if (pt_cmpR (op_eqU hu) (pe_ix (ix_U (by exact ⟨rfl, rfl⟩) hu) (pv 0) pe_int (fun _ _ => rfl)) pe_str (nomark _)) (pss_one (ps_ret (pe_tup (pa_cons pe_int (pa_cons (pe_ix (ix_U (by exact ⟨rfl, rfl⟩) hu) (pv 0) pe_int (fun _ _ => rfl)) (pa_cons (by exact (pe_callU (ok_order T) (hr.mono (by decide)) rfl T.g_order T.f_order.kp T.b_order (takes_of rfl rfl rfl rfl) (by exact (pa_cons (pe_ix (ix_U (by exact ⟨rfl, rfl⟩) hu) (pv 0) pe_int (fun _ _ => rfl)) pa_nil)))) pa_nil)))))) pss_nil)
    (pss_one (ps_ret (pe_tup (pa_cons pe_int (pa_cons (pe_ix (ix_U (by exact ⟨rfl, rfl⟩) hu) (pv 0) pe_int (fun _ _ => rfl)) (pa_cons (pe_tup pa_nil) pa_nil))))))), ?_⟩
  try dsimp only [cxOf_K]
  rintro ws μ O ⟨x, rfl, hx, hO⟩ _ _
  change St K _ _ [some _] _ _
  have ex : ∀ {μ : Mu}, Ev K (tVar 0) [some (.d x)] μ (.d x) μ := ev_var rfl
  cases hx with
  | fact r zs h1 h2 h3 =>
    rw [key_fact h1] at hO
    have t0 : EvT K (tTest (tOp (rEqA K) (tOp (rIxU K) (tVar 0) (tC (V.int 0))) (tC (V.str "fact")))) [some (.d (.tuple [.str "fact", .str r, .tuple zs]))] μ true μ := et_is (et_test (ev_op (e_at 0 ex rfl) ev_str (rv_eqX (.d _) (.d _) sh_fact sh_fact))) (by decide +kernel)
    refine st_seq (st_if0 (b := true) t0 (fun h => ?_) fun h => nomatch h)
    refine DL.st_ret (ev_tup (xs := [.int 0, .str r, ordD zs]) (ea_cons ev_int (ea_cons (e_at 1 ex rfl) (ea_cons (ev_call (n := 1) (w := .d (ordD zs)) (ea_cons (e_at 2 ex rfl) ea_nil) rfl ⟨.tuple zs, zs, rfl, .inr rfl, by omega, rfl⟩) ea_nil))) rfl (by show 3 ≤ sizeLine; decide)) (.inl hO)
  | rule t h =>
    have t0 : EvT K (tTest (tOp (rEqA K) (tOp (rIxU K) (tVar 0) (tC (V.int 0))) (tC (V.str "fact")))) [some (.d (.tuple [.str "rule", .str t]))] μ false μ := et_is (et_test (ev_op (e_at 0 ex rfl) ev_str (rv_eqX (.d _) (.d _) sh_rule sh_fact))) (by decide +kernel)
    refine st_seq (st_if0 (b := false) t0 (fun h => nomatch h) fun _ => ?_)
    refine st_next ?_
    show St _ _ _ _ _ _
    refine DL.st_ret (ev_tup (xs := [.int 1, .str t, .tuple []]) (ea_cons ev_int (ea_cons (e_at 1 ex rfl) (ea_cons (ev_tup (xs := []) ea_nil rfl (Nat.zero_le _)) ea_nil))) rfl (by show 3 ≤ sizeLine; decide)) (.inl hO)


end Mine
set_option Elab.async false
set_option linter.all false
set_option maxRecDepth 100000
set_option maxHeartbeats 4000000
namespace Mine
open PySem PySem.Spec PyProof.Rows L2 DL
variable [Wd]

local macro_rules | `(tactic| walk_at "e") => `(tactic| first
  | with_reducible exact ev_int
  | with_reducible exact ev_bl
  | with_reducible exact ev_str
  | with_reducible exact ev_non
  | ((with_reducible apply ev_var); rfl)
  | with_reducible exact ea_nil
  | with_reducible exact et_nil
  | with_reducible exact eo_no
  | with_reducible exact rv_addVI
  | with_reducible exact rv_subI
  | with_reducible exact rv_ltV
  | with_reducible exact rv_leV
  | with_reducible exact rv_gtV
  | with_reducible exact rv_geV
  | with_reducible exact rv_eqI
  | with_reducible exact rv_neI
  | with_reducible exact rv_isB
  | with_reducible exact rv_notB
  | ((with_reducible apply rv_modI); first | assumption | omega | skip)
  | ((with_reducible apply rv_divI); first | assumption | (constructor <;> omega) | skip)
  | with_reducible exact ru_I
  | with_reducible exact rc_abs
  | with_reducible exact rc_int
  | with_reducible exact rs_tup
  | with_reducible exact Tru.b _
  | with_reducible exact Tru.n
  | with_reducible exact DL.Seq.t _
  | with_reducible exact DL.Seq.l (Its.d _)
  | with_reducible exact Its.d _
  | with_reducible exact Sees.d _
  | ((with_reducible apply DL.Seq.l); (with_reducible apply DL.Its.p); assumption)
  | ((with_reducible apply DL.Its.p); assumption)
  | (with_reducible apply ev_op) <;> walk_at "e"
  | (with_reducible apply ev_un) <;> walk_at "e"
  | (with_reducible apply ea_cons) <;> walk_at "e"
  | (with_reducible apply ev_cb) <;> walk_at "e"
  | (with_reducible apply et_test) <;> walk_at "e"
  | (with_reducible apply et_not) <;> walk_at "e"
  | (with_reducible apply et_tr) <;> walk_at "e"
  | (with_reducible apply ev_notT) <;> walk_at "e"
  | (with_reducible apply eo_some) <;> walk_at "e"
  | ((with_reducible apply rv_ixQ) <;> first | ((with_reducible show atW _ _ = some _); rfl) | walk_at "e")
  | with_reducible exact rc_isint
  | with_reducible exact rc_isbool
  | with_reducible exact rc_isstr
  | with_reducible exact rc_istuple
  | with_reducible exact rc_islist
  | (with_reducible apply rc_len) <;> walk_at "e"
  | (with_reducible apply ev_fld) <;> walk_at "e"
  | (with_reducible apply ev_sl) <;> walk_at "e"
  
  | with_reducible exact ev_raw
  | with_reducible assumption
  | with_reducible rfl
  | skip)

/-! ### things in order -/
def keyP (x : PyData) : NK × W := (.tup (keyN x), .d x)
def inP (xs : List PyData) : List (NK × W) := sortP (mkD (xs.map keyP))
def inOrd (xs : List PyData) : List PyData := (inP xs).map fun p => unD p.2
theorem inP_mem {xs : List PyData} {p : NK × W} (h : p ∈ inP xs) : ∃ x ∈ xs, p = keyP x := by
  have := mkD_mem (sortP_mem.mp h)
  obtain ⟨x, hx, e⟩ := List.mem_map.mp this
  exact ⟨x, hx, e.symm⟩
theorem alike_ord : ∀ {zs us : List PyData}, (∀ z ∈ zs, isValue z = true) → (∀ z ∈ us, isValue z = true) → PySem.W.alikeAll (zs.map ord1) (us.map ord1) = true
  | [], _, _, _ => by cases ‹List PyData› <;> rfl
  | _ :: _, [], _, _ => rfl
  | z :: zs, u :: us, h1, h2 => by
    rw [List.map_cons, List.map_cons, PySem.W.alikeAll, alike_ord (fun x hx => h1 x (List.mem_cons_of_mem _ hx)) (fun x hx => h2 x (List.mem_cons_of_mem _ hx)), Bool.and_true]
    have a := h1 z List.mem_cons_self
    have b := h2 u List.mem_cons_self
    cases z with
    | int i =>
      cases u with
      | int j => rfl
      | str t => rfl
      | _ => cases b
    | str s =>
      cases u with
      | int j => rfl
      | str t => rfl
      | _ => cases b
    | _ => cases a
theorem key_rule (t : Str) : NestedKey.data (.tup (keyN (.tuple [.str "rule", .str t]))) = .tuple [.int 1, .str t, .tuple []] := rfl
theorem alike_key {x y : PyData} (hx : IsT x) (hy : IsT y) : PySem.W.alike (NestedKey.data (.tup (keyN x))) (NestedKey.data (.tup (keyN y))) = true := by
  cases hx with
  | fact r zs h1 h2 h3 =>
    rw [key_fact h1]
    cases hy with
    | fact r' us g1 g2 g3 =>
      rw [key_fact g1]
      show (true && (true && (PySem.W.alikeAll (zs.map ord1) (us.map ord1) && true))) = true
      rw [alike_ord h1 g1]; rfl
    | rule t h =>
      rw [key_rule]
      show (true && (true && (PySem.W.alikeAll (zs.map ord1) [] && true))) = true
      cases zs <;> rfl
  | rule t h =>
    rw [key_rule]
    cases hy with
    | fact r' us g1 g2 g3 =>
      rw [key_fact g1]
      rfl
    | rule t' h' => rfl
theorem dep_ord : ∀ zs : List PyData, (∀ z ∈ zs, isValue z = true) → PyData.depthAll (zs.map ord1) ≤ 1
  | [], _ => Nat.zero_le _
  | z :: zs, h => by
    have ih := dep_ord zs fun x hx => h x (List.mem_cons_of_mem _ hx)
    have hz : (ord1 z).depth ≤ 1 := by
      have a := h z List.mem_cons_self
      cases z with
      | int i => show (PyData.tuple [.int 0, .int i, .str ""]).depth ≤ 1; exact Nat.le_refl 1
      | str s => show (PyData.tuple [.int 1, .int 0, .str s]).depth ≤ 1; exact Nat.le_refl 1
      | _ => cases a
    rw [List.map_cons]
    show max (ord1 z).depth (PyData.depthAll (zs.map ord1)) ≤ 1
    exact Nat.max_le.mpr ⟨hz, ih⟩
theorem key_dep {x : PyData} (hx : IsT x) : (NestedKey.data (.tup (keyN x))).depth ≤ 32 := by
  cases hx with
  | fact r zs h1 h2 h3 =>
    rw [key_fact h1]
    have := dep_ord zs h1
    show max 0 (max 0 (max (PyData.depthAll (zs.map ord1) + 1) 0)) + 1 ≤ 32
    omega
  | rule t h =>
    rw [key_rule]
    exact (by decide : 2 ≤ 32)
theorem sort_ok {ks : List (NK × W)} (h : ∀ p ∈ ks, ∃ x, IsT x ∧ p.1 = .tup (keyN x)) : SortOk (ks.map fun p => p.1.data) := by
  refine ⟨fun d hd d' hd' => ?_, .inl fun d hd => ?_, fun d hd => ?_⟩
  · obtain ⟨p, hp, rfl⟩ := List.mem_map.mp hd
    obtain ⟨q, hq, rfl⟩ := List.mem_map.mp hd'
    obtain ⟨x, hx, e⟩ := h p hp
    obtain ⟨y, hy, e'⟩ := h q hq
    rw [e, e']
    exact alike_key hx hy
  · obtain ⟨p, hp, rfl⟩ := List.mem_map.mp hd
    obtain ⟨x, hx, e⟩ := h p hp
    rw [e]
    cases hx with
    | fact r zs h1 h2 h3 => exact ⟨_, _, key_fact h1⟩
    | rule t h => exact ⟨_, _, key_rule t⟩
  · obtain ⟨p, hp, rfl⟩ := List.mem_map.mp hd
    obtain ⟨x, hx, e⟩ := h p hp
    rw [e]
    exact key_dep hx
theorem fold_len (ps : List (NK × W)) : ∀ acc : List (NK × W), (ps.foldl (fun acc p => puD acc p.1 p.2) acc).length ≤ acc.length + ps.length := by
  induction ps with
  | nil => exact fun acc => Nat.le_refl _
  | cons p ps ih =>
    intro acc
    have h1 := ih (puD acc p.1 p.2)
    have h2 := puD_len acc p.1 p.2
    show (ps.foldl _ (puD acc p.1 p.2)).length ≤ _
    rw [List.length_cons]
    omega
theorem mk_len (ps : List (NK × W)) : (mkD ps).length ≤ ps.length := by
  have := fold_len ps []
  simpa [mkD] using this
def phInOrder (a : Ad) : DL.Spec := fun ws μ O => ∃ w xs, ws = [w] ∧ DL.Seq μ w (xs.map .d) ∧ xs.length ≤ 1000 ∧ (∀ x ∈ xs, Nice x) ∧
  (((∃ x ∈ xs, isThing x = false) ∧ O (.exc (.ref a.C_InvalidArgument) μ)) ∨ ((∀ x ∈ xs, isThing x = true) ∧ O (.ret (.d (.tuple (inOrd xs))) μ)))
theorem ok_in_order {K : PySem.W.Frag} {mg : Str → Option Value} {base : Heap} {a : Ad} (T : Txt K mg a) : FnOk Wd.P Wd.w K mg base (L2.CX Wd.P Wd.w) 5 a.f_in_order a.d_in_order ["things"] (spOf K 1 (phInOrder a)) := by
  refine def_ok T.f_in_order sc_in_order rfl fun cdv A outer s H E hr => ?_
  have hu := hr.units
  have hu5 := room65 hr
  refine ⟨_, (pss_cons (ps_set (i := 1) sc_in_order.nd rfl (Or.inl rfl) (pe_callTy call_lstU rfl T.z_list (by decide +kernel) (pa_cons (pv 0) pa_nil)))
    (pss_cons (ps_if (pt_tr (pe_lc (own := [("thing", 3)]) (g := (gName 3)) (tt := (tNot (tTr K (tCallS (spOf K 1 phThing) (WE (fun _ _ _ _ => False)) (tCons (tVar 3) tNil))))) (te := (tVar 3)) rfl sc_in_order.nd (by exact (pi_seqW (pv 1))) (blkOk_by (own := [("thing", 3)]) (N := ["things", "rows", "told", "thing", "key"]) (sc := defScope s_in_order) (by decide +kernel)) (fun _ _ _ _ _ => by exact (pg_name (i := 3) sc_in_order.nd rfl (Or.inl rfl))) (fun _ _ _ _ _ => by exact (pts_one (pt_not (pt_tr (by exact (pe_callU (ok_is_thing T) (hr.mono (by decide)) rfl T.g_is_thing T.f_is_thing.kp T.b_is_thing takes0 (by exact (pa_cons (pv 3) pa_nil)))))))) (fun _ _ _ _ _ => by exact (pv 3)))) (pss_one (ps_raiseU rfl (takes_of rfl rfl rfl rfl) PySem.F.excBase_ValueError T.x_InvalidArgument T.g_InvalidArgument T.k_InvalidArgument (raises_own T.sb_InvalidArgument T.ty_InvalidArgument) rfl)) pss_nil)
    (pss_cons (ps_set (i := 2) sc_in_order.nd rfl (Or.inr rfl) (pe_dcN (own := [("thing", 3)]) (g := (gName 3)) (tt := tYes) (tk := (tCallS (spOf K 1 phKey) (WE (fun _ _ _ _ => False)) (tCons (tVar 3) tNil))) (tv := (tVar 3)) (by exact ⟨rfl, rfl⟩) (room9 hr) (dn0_ok (by exact ⟨rfl, rfl⟩)) rfl sc_in_order.nd (by exact (pi_seqW (pv 1))) (blkOk_by (own := [("thing", 3)]) (N := ["things", "rows", "told", "thing", "key"]) (sc := defScope s_in_order) (by decide +kernel)) (fun _ _ _ _ _ => by exact (pg_name (i := 3) sc_in_order.nd rfl (Or.inl rfl))) (fun _ _ _ _ _ => by exact pts_nil) (fun _ _ _ _ _ => by exact (by exact (pe_callU (ok_key_of T) (hr.mono (by decide)) rfl T.g_key_of T.f_key_of.kp T.b_key_of takes0 (by exact (pa_cons (pv 3) pa_nil))))) (fun _ _ _ _ _ => by exact (pv 3))))
    (pss_one (ps_ret (pe_callTy call_tupU rfl T.z_tuple (by decide +kernel) (pa_cons (pe_lc (own := [("key", 4)]) (g := (gName 4)) (tt := tYes) (te := (tOp (rIxU K) (tVar 2) (tVar 4))) rfl sc_in_order.nd (by exact (pi_seqW (pe_callB (cr_sortU (by exact ⟨rfl, rfl⟩) rfl hu) rfl T.z_sorted (by decide +kernel) (pa_cons (pv 2) pa_nil)))) (blkOk_by (own := [("key", 4)]) (N := ["things", "rows", "told", "thing", "key"]) (sc := defScope s_in_order) (by decide +kernel)) (fun _ _ _ _ _ => by exact (pg_name (i := 4) sc_in_order.nd rfl (Or.inl rfl))) (fun _ _ _ _ _ => by exact pts_nil) (fun _ _ _ _ _ => by exact (pe_ix (ix_U (by exact ⟨rfl, rfl⟩) hu) (pv 2) (pv 4) (fun _ _ => rfl)))) pa_nil))))))), ?_⟩
  try dsimp only [cxOf_K]
  rintro ws μ O ⟨y, xs, rfl, hseq, hz, hn, hO⟩ _ hcl
  change St K _ _ [some _, none, none, none, none] _ _
  have hzz : (xs.map W.d).length ≤ sizeLine := by rw [List.length_map]; exact Nat.le_trans hz (by decide)
  refine st_seq (st_set (ev_cb (ea_cons (ev_var rfl) ea_nil) (rc_lstD hseq)) ?_)
  show St _ _ _ _ _ _
  dsimp only [List.set_cons_zero, List.set_cons_succ]
  have lc := ev_lcF (K := K) (μ := μ) (δ := [some y, some (.d (.list xs)), none, none, none]) (wi := iSeqW K (tVar 1)) (tt := tNot (tTr K (tCallS (spOf K 1 phThing) (WE (fun _ _ _ _ => False)) (tCons (tVar 3) tNil)))) (te := tVar 3) (g := gName 3) (vs := [3])
    (f := unD) (p := fun w => !isThing (unD w)) (ei_wL (ev_var rfl) (.d _)) mg_name (tg_name (by decide)) hzz trivial (fun i w hw => by
      rw [List.getElem?_map] at hw
      obtain ⟨z, hz, rfl⟩ := Option.map_eq_some_iff.mp hw
      exact ⟨_, eg_name, et_not (et_tr (ev_call (n := 1) (w := .b (isThing z)) (ea_cons (ev_var rfl) ea_nil) rfl ⟨z, rfl, hn z (List.mem_of_getElem? hz), rfl⟩) (.b _)), fun _ => ev_var rfl⟩)
  refine st_seq (st_if0 (et_tr lc (.q (.l (.d _)))) (fun h => ?_) fun h => ?_)
  · rcases hO with ⟨_, hO⟩ | ⟨hall, _⟩
    · exact st_raise (.inl hO)
    · refine absurd h ?_
      have : (xs.map W.d).filter (fun w => !isThing (unD w)) = [] := by
        rw [List.filter_eq_nil_iff]
        intro w hw
        obtain ⟨x, hx, rfl⟩ := List.mem_map.mp hw
        show ¬ (!isThing x) = true
        rw [hall x hx]; simp
      rw [this]
      simp
  · refine st_next ?_
    show St _ _ _ _ _ _
    rcases hO with ⟨⟨x, hx, hf⟩, _⟩ | ⟨hall, hO⟩
    · refine absurd h ?_
      have : W.d x ∈ (xs.map W.d).filter (fun w => !isThing (unD w)) := List.mem_filter.mpr ⟨List.mem_map.mpr ⟨x, hx, rfl⟩, by show (!isThing x) = true; rw [hf]; rfl⟩
      cases e : (xs.map W.d).filter (fun w => !isThing (unD w)) with
      | nil => rw [e] at this; cases this
      | cons => rw [e] at h; simp at h
    have ht : ∀ x ∈ xs, IsT x := fun x hx => isT_of (hall x hx)
    have eM : (xs.map W.d).map (fun w => (NestedKey.tup (keyN (unD w)), w)) = xs.map keyP := by
      rw [List.map_map]
      rfl
    have dc := ev_dcM (K := K) (μ := μ) (δ := [some y, some (.d (.list xs)), none, none, none]) (wi := iSeqW K (tVar 1)) (tt := tYes) (tk := tCallS (spOf K 1 phKey) (WE (fun _ _ _ _ => False)) (tCons (tVar 3) tNil)) (tv := tVar 3) (g := gName 3) (vs := [3])
      (kf := fun w => keyN (unD w)) (f := fun w => w) (ei_wL (ev_var rfl) (.d _)) mg_name (tg_name (by decide)) hzz trivial (fun i w hw => by
        rw [List.getElem?_map] at hw
        obtain ⟨z, hz, rfl⟩ := Option.map_eq_some_iff.mp hw
        have hi := ht z (List.mem_of_getElem? hz)
        exact ⟨_, eg_name, et_nil, key_depth hi, ev_call (n := 1) (ea_cons (ev_var rfl) ea_nil) rfl ⟨z, rfl, hi, rfl⟩, ev_var rfl⟩)
    rw [eM] at dc
    refine st_seq (st_set dc ?_)
    show St _ _ _ _ _ _
    dsimp only [List.set_cons_zero, List.set_cons_succ]
    have hd : (μ ++ [Cell.dn (mkD (xs.map keyP))])[μ.length]? = some (.dn (mkD (xs.map keyP))) := gL
    have mem : ∀ p ∈ mkD (xs.map keyP), ∃ x, IsT x ∧ p.1 = .tup (keyN x) := fun p hp => by
      obtain ⟨x, hx, e⟩ := List.mem_map.mp (mkD_mem hp)
      exact ⟨x, ht x hx, by rw [← e]; rfl⟩
    have srt := ev_cb (K := K) (δ := [some y, some (.d (.list xs)), some (.p μ.length), none, none]) (tl := tCons (tVar 2) tNil) (ea_cons (ev_var rfl) ea_nil) (rc_sortN hd (sort_ok mem))
    rw [sortP_keys] at srt
    have hl : (mkD (xs.map keyP)).length ≤ 1000 := by
      have := mk_len (xs.map keyP)
      rw [List.length_map] at this
      omega
    have lst := ev_lcD (K := K) (μ' := μ ++ [Cell.dn (mkD (xs.map keyP))]) (te := tOp (rIxU K) (tVar 2) (tVar 4)) (tt := tYes) (g := gName 4) (vs := [4]) (xs := inOrd xs) (ei_wL srt (.d _)) mg_name (tg_name (by decide)) (by rw [List.length_map, List.length_map, sortP_len]; exact Nat.le_trans hl (by decide))
      (fun i μi acc => μi = μ ++ [Cell.dn (mkD (xs.map keyP))] ∧ acc = (((inP xs).take i).map fun p => unD p.2).map .d) ⟨rfl, rfl⟩ (fun i μi acc z => trivial) (fun i w μi acc hw z => by
        obtain ⟨rfl, rfl⟩ := z
        rw [List.map_map, List.getElem?_map] at hw
        obtain ⟨p, hp, rfl⟩ := Option.map_eq_some_iff.mp hw
        have hp : (inP xs)[i]? = some p := hp
        obtain ⟨x, hx, e⟩ := inP_mem (List.mem_of_getElem? hp)
        have hk := lkD_mem (mkD_nodup (xs.map keyP)) (sortP_mem.mp (List.mem_of_getElem? hp))
        refine ⟨_, _, true, _, eg_name, et_nil, fun _ => ⟨.d (unD p.2), _, ?_, rfl, ?_⟩, fun h => nomatch h⟩
        · rw [e] at hk ⊢
          exact ev_op (ev_var rfl) (ev_var rfl) (rv_ixN hd (key_depth (ht x hx)) hk)
        · rw [take_more hp, List.map_append, List.map_append]
          rfl) fun μi acc z => by
        obtain ⟨rfl, rfl⟩ := z
        refine ⟨rfl, ?_⟩
        rw [List.length_map, List.length_map]
        show (((inP xs).take (inP xs).length).map fun p => unD p.2).map W.d = _
        rw [List.take_length]
        rfl
    refine DL.st_ret (ev_cb (ea_cons lst ea_nil) (rc_tup (.l (.d _)))) (.inr ⟨μ, [_], rfl, Nat.le_refl _, hcl, trivial, hO⟩)


end Mine
set_option Elab.async false
set_option linter.all false
set_option maxRecDepth 100000
set_option maxHeartbeats 4000000
namespace Mine
open PySem PySem.Spec PyProof.Rows L2 DL
variable [Wd]

local macro_rules | `(tactic| walk_at "e") => `(tactic| first
  | with_reducible exact ev_int
  | with_reducible exact ev_bl
  | with_reducible exact ev_str
  | with_reducible exact ev_non
  | ((with_reducible apply ev_var); rfl)
  | with_reducible exact ea_nil
  | with_reducible exact et_nil
  | with_reducible exact eo_no
  | with_reducible exact rv_addVI
  | with_reducible exact rv_subI
  | with_reducible exact rv_ltV
  | with_reducible exact rv_leV
  | with_reducible exact rv_gtV
  | with_reducible exact rv_geV
  | with_reducible exact rv_eqI
  | with_reducible exact rv_neI
  | with_reducible exact rv_isB
  | with_reducible exact rv_notB
  | ((with_reducible apply rv_modI); first | assumption | omega | skip)
  | ((with_reducible apply rv_divI); first | assumption | (constructor <;> omega) | skip)
  | with_reducible exact ru_I
  | with_reducible exact rc_abs
  | with_reducible exact rc_int
  | with_reducible exact rs_tup
  | with_reducible exact Tru.b _
  | with_reducible exact Tru.n
  | with_reducible exact DL.Seq.t _
  | with_reducible exact DL.Seq.l (Its.d _)
  | with_reducible exact Its.d _
  | with_reducible exact Sees.d _
  | ((with_reducible apply DL.Seq.l); (with_reducible apply DL.Its.p); assumption)
  | ((with_reducible apply DL.Its.p); assumption)
  | (with_reducible apply ev_op) <;> walk_at "e"
  | (with_reducible apply ev_un) <;> walk_at "e"
  | (with_reducible apply ea_cons) <;> walk_at "e"
  | (with_reducible apply ev_cb) <;> walk_at "e"
  | (with_reducible apply et_test) <;> walk_at "e"
  | (with_reducible apply et_not) <;> walk_at "e"
  | (with_reducible apply et_tr) <;> walk_at "e"
  | (with_reducible apply ev_notT) <;> walk_at "e"
  | (with_reducible apply eo_some) <;> walk_at "e"
  | ((with_reducible apply rv_ixQ) <;> first | ((with_reducible show atW _ _ = some _); rfl) | walk_at "e")
  | with_reducible exact rc_isint
  | with_reducible exact rc_isbool
  | with_reducible exact rc_isstr
  | with_reducible exact rc_istuple
  | with_reducible exact rc_islist
  | (with_reducible apply rc_len) <;> walk_at "e"
  | (with_reducible apply ev_fld) <;> walk_at "e"
  | (with_reducible apply ev_sl) <;> walk_at "e"
  
  | with_reducible exact ev_raw
  | with_reducible assumption
  | with_reducible rfl
  | skip)

def phAre : DL.Spec := fun ws μ O => ∃ y, ws = [.d y] ∧ ((isaTuple y = false ∧ O (.ret (.b false) μ)) ∨
  ∃ xs, y = .tuple xs ∧ xs.length ≤ 1000 ∧ (∀ x ∈ xs, Nice x ∧ isThing x = true) ∧ SeqAt.shaped (.tuple xs) = true ∧ SeqAt.shaped (.tuple (inOrd xs)) = true ∧ O (.ret (.b (PyData.eqv (.tuple (inOrd xs)) (.tuple xs))) μ))
theorem ok_are_things {K : PySem.W.Frag} {mg : Str → Option Value} {base : Heap} {a : Ad} (T : Txt K mg a) : FnOk Wd.P Wd.w K mg base (L2.CX Wd.P Wd.w) 6 a.f_are_things a.d_are_things ["value"] (spOf K 1 phAre) := by
  refine def_ok T.f_are_things sc_are_things rfl fun cdv A outer s H E hr => ?_
  have hu := hr.units
  have hu5 := room65 hr
  refine ⟨_, (pss_cons (ps_if (PW.pt (pw_or (pt_not (pt_tr (pe_callB call_isi rfl T.z_isinstance (by decide +kernel) (pa_cons (pv 0) (pa_cons (pe_bltn (v := .ty "tuple") (u := .type "tuple") rfl T.z_tuple (by decide +kernel) rfl) pa_nil))))) (pw_or1 (pt_tr (pe_lc (own := [("thing", 1)]) (g := (gName 1)) (tt := (tNot (tTr K (tCallS (spOf K 1 phThing) (WE (fun _ _ _ _ => False)) (tCons (tVar 1) tNil))))) (te := (tVar 1)) rfl sc_are_things.nd (by exact (pi_seqW (pv 0))) (blkOk_by (own := [("thing", 1)]) (N := ["value", "thing"]) (sc := defScope s_are_things) (by decide +kernel)) (fun _ _ _ _ _ => by exact (pg_name (i := 1) sc_are_things.nd rfl (Or.inl rfl))) (fun _ _ _ _ _ => by exact (pts_one (pt_not (pt_tr (by exact (pe_callU (ok_is_thing T) (hr.mono (by decide)) rfl T.g_is_thing T.f_is_thing.kp T.b_is_thing takes0 (by exact (pa_cons (pv 1) pa_nil)))))))) (fun _ _ _ _ _ => by exact (pv 1))))))) (pss_one (ps_ret pe_bl)) pss_nil)
    (pss_one (ps_ret (pe_cmpR (op_eqU hu) (by exact (pe_callU (ok_in_order T) (hr.mono (by decide)) rfl T.g_in_order T.f_in_order.kp T.b_in_order (takes_of rfl rfl rfl rfl) (by exact (pa_cons (pv 0) pa_nil)))) (pv 0) (nomark _))))), ?_⟩
  try dsimp only [cxOf_K]
  rintro ws μ O ⟨y, rfl, hO⟩ _ _
  change St K _ _ [some _, none] _ _
  rcases hO with ⟨hf, hO⟩ | ⟨xs, rfl, hz, hx, sh1, sh2, hO⟩
  · refine st_seq (st_if0 (b := true) (et_is (et_or0 (a := true) (b := true) (et_is (e_istup (K := K) (μ := μ) (ev_var rfl)) (by rw [hf]; rfl)) fun h => nomatch h) rfl) (fun h => ?_) fun h => nomatch h)
    exact DL.st_ret ev_bl (.inl hO)
  · have hzz : (xs.map W.d).length ≤ sizeLine := by rw [List.length_map]; exact Nat.le_trans hz (by decide)
    have lc := ev_lcF (K := K) (μ := μ) (δ := [some (.d (.tuple xs)), none]) (wi := iSeqW K (tVar 0)) (tt := tNot (tTr K (tCallS (spOf K 1 phThing) (WE (fun _ _ _ _ => False)) (tCons (tVar 1) tNil)))) (te := tVar 1) (g := gName 1) (vs := [1])
      (f := unD) (p := fun w => !isThing (unD w)) (ei_wT (ev_var rfl)) mg_name (tg_name (by decide)) hzz trivial (fun i w hw => by
        rw [List.getElem?_map] at hw
        obtain ⟨z, hz, rfl⟩ := Option.map_eq_some_iff.mp hw
        exact ⟨_, eg_name, et_not (et_tr (ev_call (n := 1) (w := .b (isThing z)) (ea_cons (ev_var rfl) ea_nil) rfl ⟨z, rfl, (hx z (List.mem_of_getElem? hz)).1, rfl⟩) (.b _)), fun _ => ev_var rfl⟩)
    have e0 : (xs.map W.d).filter (fun w => !isThing (unD w)) = [] := by
      rw [List.filter_eq_nil_iff]
      intro w hw
      obtain ⟨x, hxx, rfl⟩ := List.mem_map.mp hw
      show ¬ (!isThing x) = true
      rw [(hx x hxx).2]; simp
    rw [e0] at lc
    refine st_seq (st_if0 (b := false) (et_is (et_or0 (a := false) (e_istup (K := K) (μ := μ) (x := .tuple xs) (ev_var rfl)) fun _ => et_tr lc (.q (.l (.d _)))) rfl) (fun h => nomatch h) fun _ => ?_)
    refine st_next ?_
    show St _ _ _ _ _ _
    exact DL.st_ret (ev_op (ev_call (n := 1) (ea_cons (ev_var rfl) ea_nil) rfl ⟨.d (.tuple xs), xs, rfl, .t _, hz, fun x h => (hx x h).1, .inr ⟨fun x h => (hx x h).2, rfl⟩⟩) (ev_var rfl) (rv_eqX (.d _) (.d _) sh2 sh1)) (.inl hO)
def factD (r : PyData) (zs : List PyData) : PyData := .tuple [.str "fact", r, .tuple zs]
def phMkFact (a : Ad) : DL.Spec := fun ws μ O => ∃ r v zs, ws = [.d r, .d v] ∧ (v = .list zs ∨ v = .tuple zs) ∧ Nice (factD r zs) ∧ zs.length ≤ 1000 ∧
  ((isThing (factD r zs) = false ∧ O (.exc (.ref a.C_InvalidArgument) μ)) ∨ (isThing (factD r zs) = true ∧ O (.ret (.d (factD r zs)) μ)))
theorem ok_fact_thing {K : PySem.W.Frag} {mg : Str → Option Value} {base : Heap} {a : Ad} (T : Txt K mg a) : FnOk Wd.P Wd.w K mg base (L2.CX Wd.P Wd.w) 5 a.f_fact_thing a.d_fact_thing ["relation", "values"] (spOf K 2 (phMkFact a)) := by
  refine def_ok T.f_fact_thing sc_fact_thing rfl fun cdv A outer s H E hr => ?_
  have hu := hr.units
  have hu5 := room65 hr
  refine ⟨_, (pss_cons (ps_set (i := 2) sc_fact_thing.nd rfl (Or.inl rfl) (pe_tup (pa_cons pe_str (pa_cons (pv 0) (pa_cons (pe_callTy call_tupU rfl T.z_tuple (by decide +kernel) (pa_cons (pv 1) pa_nil)) pa_nil)))))
    (pss_cons (ps_if (pt_not (pt_tr (by exact (pe_callU (ok_is_thing T) (hr.mono (by decide)) rfl T.g_is_thing T.f_is_thing.kp T.b_is_thing (takes_of rfl rfl rfl rfl) (by exact (pa_cons (pv 2) pa_nil)))))) (pss_one (ps_raiseU rfl (takes_of rfl rfl rfl rfl) PySem.F.excBase_ValueError T.x_InvalidArgument T.g_InvalidArgument T.k_InvalidArgument (raises_own T.sb_InvalidArgument T.ty_InvalidArgument) rfl)) pss_nil)
    (pss_one (ps_ret (pv 2))))), ?_⟩
  try dsimp only [cxOf_K]
  rintro ws μ O ⟨r, v, zs, rfl, hv, hn, hz, hO⟩ _ _
  change St K _ _ [some _, some _, none] _ _
  have hseq : DL.Seq μ (.d v) (zs.map .d) := by
    rcases hv with rfl | rfl
    · exact .l (.d _)
    · exact .t _
  refine st_seq (st_set (ev_tup (xs := [.str "fact", r, .tuple zs]) (ea_cons ev_str (ea_cons (ev_var rfl) (ea_cons (ev_cb (ea_cons (ev_var rfl) ea_nil) (rc_tup hseq)) ea_nil))) rfl (by show 3 ≤ sizeLine; decide)) ?_)
  show St _ _ _ _ _ _
  dsimp only [List.set_cons_zero, List.set_cons_succ]
  refine st_seq (st_if0 (b := !isThing (factD r zs)) (et_not (et_tr (w := .b (isThing (factD r zs))) (ev_call (n := 1) (ea_cons (ev_var rfl) ea_nil) rfl ⟨_, rfl, hn, rfl⟩) (.b _))) (fun h => ?_) fun h => ?_)
  · rcases hO with ⟨_, hO⟩ | ⟨ht, _⟩
    · exact st_raise (.inl hO)
    · rw [ht] at h; cases h
  · refine st_next ?_
    show St _ _ _ _ _ _
    rcases hO with ⟨hf, _⟩ | ⟨_, hO⟩
    · rw [hf] at h; cases h
    · exact DL.st_ret (ev_var rfl) (.inl hO)
def ruleD (t : PyData) : PyData := .tuple [.str "rule", t]
def phMkRule (a : Ad) : DL.Spec := fun ws μ O => ∃ t, ws = [.d t] ∧ (∀ s, t = .str s → s.length ≤ 1000) ∧ ((isRule t = false ∧ O (.exc (.ref a.C_InvalidArgument) μ)) ∨ (isRule t = true ∧ O (.ret (.d (ruleD t)) μ)))
theorem ok_rule_thing {K : PySem.W.Frag} {mg : Str → Option Value} {base : Heap} {a : Ad} (T : Txt K mg a) : FnOk Wd.P Wd.w K mg base (L2.CX Wd.P Wd.w) 2 a.f_rule_thing a.d_rule_thing ["text"] (spOf K 1 (phMkRule a)) := by
  refine def_ok T.f_rule_thing sc_rule_thing rfl fun cdv A outer s H E hr => ?_
  have hu := hr.units
  have hu5 := room65 hr
  refine ⟨_, (pss_cons (ps_if (pt_not (pt_tr (by exact (pe_callU (ok_is_rule_text T) (hr.mono (by decide)) rfl T.g_is_rule_text T.f_is_rule_text.kp T.b_is_rule_text (takes_of rfl rfl rfl rfl) (by exact (pa_cons (pv 0) pa_nil)))))) (pss_one (ps_raiseU rfl (takes_of rfl rfl rfl rfl) PySem.F.excBase_ValueError T.x_InvalidArgument T.g_InvalidArgument T.k_InvalidArgument (raises_own T.sb_InvalidArgument T.ty_InvalidArgument) rfl)) pss_nil)
    (pss_one (ps_ret (pe_tup (pa_cons pe_str (pa_cons (pv 0) pa_nil)))))), ?_⟩
  try dsimp only [cxOf_K]
  rintro ws μ O ⟨t, rfl, ht, hO⟩ _ _
  change St K _ _ [some _] _ _
  refine st_seq (st_if0 (b := !isRule t) (et_not (et_tr (w := .b (isRule t)) (ev_call (n := 1) (ea_cons (ev_var rfl) ea_nil) rfl ⟨_, rfl, ht, rfl⟩) (.b _))) (fun h => ?_) fun h => ?_)
  · rcases hO with ⟨_, hO⟩ | ⟨hr, _⟩
    · exact st_raise (.inl hO)
    · rw [hr] at h; cases h
  · refine st_next ?_
    show St _ _ _ _ _ _
    rcases hO with ⟨hf, _⟩ | ⟨_, hO⟩
    · rw [hf] at h; cases h
    · exact DL.st_ret (ev_tup (xs := [.str "rule", t]) (ea_cons ev_str (ea_cons (ev_var rfl) ea_nil)) rfl (by show 2 ≤ sizeLine; decide)) (.inl hO)
def phTogether : DL.Spec := fun ws μ O => ∃ xs ys, ws = [.d (.tuple xs), .d (.tuple ys)] ∧ xs.length + ys.length ≤ 1000 ∧ (∀ x ∈ xs ++ ys, Nice x ∧ isThing x = true) ∧ O (.ret (.d (.tuple (inOrd (xs ++ ys)))) μ)
theorem ok_together {K : PySem.W.Frag} {mg : Str → Option Value} {base : Heap} {a : Ad} (T : Txt K mg a) : FnOk Wd.P Wd.w K mg base (L2.CX Wd.P Wd.w) 6 a.f_together a.d_together ["one", "other"] (spOf K 2 phTogether) := by
  refine def_ok T.f_together sc_together rfl fun cdv A outer s H E hr => ?_
  have hu := hr.units
  have hu5 := room65 hr
  refine ⟨_, (pss_one (ps_ret (by exact (pe_callU (ok_in_order T) (hr.mono (by decide)) rfl T.g_in_order T.f_in_order.kp T.b_in_order (takes_of rfl rfl rfl rfl) (by exact (pa_cons (pe_op op_addV (pv 0) (pv 1)) pa_nil)))))), ?_⟩
  try dsimp only [cxOf_K]
  rintro ws μ O ⟨xs, ys, rfl, hz, hx, hO⟩ _ _
  change St K _ _ [some _, some _] _ _
  exact DL.st_ret (ev_call (n := 1) (ea_cons (ev_op (ev_var rfl) (ev_var rfl) (rv_addVT (Nat.le_trans hz (by decide)))) ea_nil) rfl ⟨_, xs ++ ys, rfl, .t _, by rw [List.length_append]; exact hz, fun x h => (hx x h).1, .inr ⟨fun x h => (hx x h).2, rfl⟩⟩) (.inl hO)


end Mine
set_option Elab.async false
set_option linter.all false
set_option maxRecDepth 100000
set_option maxHeartbeats 4000000
namespace Mine
open PySem PySem.Spec PyProof.Rows L2 DL
variable [Wd]

local macro_rules | `(tactic| walk_at "e") => `(tactic| first
  | with_reducible exact ev_int
  | with_reducible exact ev_bl
  | with_reducible exact ev_str
  | with_reducible exact ev_non
  | ((with_reducible apply ev_var); rfl)
  | with_reducible exact ea_nil
  | with_reducible exact et_nil
  | with_reducible exact eo_no
  | with_reducible exact rv_addVI
  | with_reducible exact rv_subI
  | with_reducible exact rv_ltV
  | with_reducible exact rv_leV
  | with_reducible exact rv_gtV
  | with_reducible exact rv_geV
  | with_reducible exact rv_eqI
  | with_reducible exact rv_neI
  | with_reducible exact rv_isB
  | with_reducible exact rv_notB
  | ((with_reducible apply rv_modI); first | assumption | omega | skip)
  | ((with_reducible apply rv_divI); first | assumption | (constructor <;> omega) | skip)
  | with_reducible exact ru_I
  | with_reducible exact rc_abs
  | with_reducible exact rc_int
  | with_reducible exact rs_tup
  | with_reducible exact Tru.b _
  | with_reducible exact Tru.n
  | with_reducible exact DL.Seq.t _
  | with_reducible exact DL.Seq.l (Its.d _)
  | with_reducible exact Its.d _
  | with_reducible exact Sees.d _
  | ((with_reducible apply DL.Seq.l); (with_reducible apply DL.Its.p); assumption)
  | ((with_reducible apply DL.Its.p); assumption)
  | (with_reducible apply ev_op) <;> walk_at "e"
  | (with_reducible apply ev_un) <;> walk_at "e"
  | (with_reducible apply ea_cons) <;> walk_at "e"
  | (with_reducible apply ev_cb) <;> walk_at "e"
  | (with_reducible apply et_test) <;> walk_at "e"
  | (with_reducible apply et_not) <;> walk_at "e"
  | (with_reducible apply et_tr) <;> walk_at "e"
  | (with_reducible apply ev_notT) <;> walk_at "e"
  | (with_reducible apply eo_some) <;> walk_at "e"
  | ((with_reducible apply rv_ixQ) <;> first | ((with_reducible show atW _ _ = some _); rfl) | walk_at "e")
  | with_reducible exact rc_isint
  | with_reducible exact rc_isbool
  | with_reducible exact rc_isstr
  | with_reducible exact rc_istuple
  | with_reducible exact rc_islist
  | (with_reducible apply rc_len) <;> walk_at "e"
  | (with_reducible apply ev_fld) <;> walk_at "e"
  | (with_reducible apply ev_sl) <;> walk_at "e"
  
  | with_reducible exact ev_raw
  | with_reducible assumption
  | with_reducible rfl
  | skip)

def isF (x : PyData) : Bool := match x with
  | .tuple (a :: _) => PyData.eqv a (.str "fact")
  | _ => false
def isR (x : PyData) : Bool := match x with
  | .tuple (a :: _) => PyData.eqv a (.str "rule")
  | _ => false
def tlD (x : PyData) : PyData := match x with
  | .tuple xs => .tuple (xs.drop 1)
  | _ => .none
def sndD (x : PyData) : PyData := match x with
  | .tuple (_ :: b :: _) => b
  | _ => .none
theorem ff : PyData.eqv (.str "fact") (.str "fact") = true := by decide +kernel
theorem rf : PyData.eqv (.str "rule") (.str "fact") = false := by decide +kernel
theorem fr : PyData.eqv (.str "fact") (.str "rule") = false := by decide +kernel
theorem rr : PyData.eqv (.str "rule") (.str "rule") = true := by decide +kernel
/-- what any thing's head and rest are -/
theorem thing_at {x : PyData} (h : IsT x) : ∃ a b r, x = .tuple (a :: b :: r) ∧ SeqAt.shaped a = true ∧ r.length ≤ 1 := by
  cases h with
  | fact r zs h1 h2 h3 => exact ⟨_, _, _, rfl, sh_fact, Nat.le_refl _⟩
  | rule t h => exact ⟨_, _, _, rfl, sh_rule, Nat.zero_le _⟩
def phFacts : DL.Spec := fun ws μ O => ∃ xs, ws = [.d (.tuple xs)] ∧ xs.length ≤ 1000 ∧ (∀ x ∈ xs, IsT x) ∧ O (.ret (.d (.tuple ((xs.filter isF).map tlD))) μ)
def phTexts : DL.Spec := fun ws μ O => ∃ xs, ws = [.d (.tuple xs)] ∧ xs.length ≤ 1000 ∧ (∀ x ∈ xs, IsT x) ∧ O (.ret (.d (.tuple ((xs.filter isR).map sndD))) μ)
theorem unD_map (xs : List PyData) (p : PyData → Bool) (f : PyData → PyData) : (((xs.map W.d).filter fun w => p (unD w)).map fun w => f (unD w)) = (xs.filter p).map f := by
  rw [List.filter_map, List.map_map]
  rfl
theorem facts_walk {K : PySem.W.Frag} {μ : Mu} {te : TE} {δ : Dl} {xs : List PyData} {i : Nat} (hi : i < δ.length) (e : Ev K te δ μ (.d (.tuple xs)) μ) (hz : xs.length ≤ 1000) (hx : ∀ x ∈ xs, IsT x) :
    Ev K (tLc (iSeqW K te) (gName i) (tTest (tOp (rEqA K) (tOp (rIxU K) (tVar i) (tC (V.int 0))) (tC (V.str "fact")))) (tSl (rSlU K) (tVar i) (tPart (tC (V.int 1))) tNoPart) [i]) δ μ (.d (.list ((xs.filter isF).map tlD))) μ := by
  have hzz : (xs.map W.d).length ≤ sizeLine := by rw [List.length_map]; exact Nat.le_trans hz (by decide)
  refine ev_is (ev_lcF (f := fun w => tlD (unD w)) (p := fun w => isF (unD w)) (ei_wT e) mg_name (tg_name (by simp)) hzz trivial fun j w hw => ?_) (by rw [unD_map])
  rw [List.getElem?_map] at hw
  obtain ⟨z, hz, rfl⟩ := Option.map_eq_some_iff.mp hw
  obtain ⟨a, b, r, rfl, sh, hr⟩ := thing_at (hx z (List.mem_of_getElem? hz))
  have hl : i < (wipeD δ [i]).length := by show i < ((δ).set i none).length; rw [List.length_set]; exact hi
  have ev : ∀ {μ : Mu}, Ev K (tVar i) ((wipeD δ [i]).set i (some (.d (.tuple (a :: b :: r))))) μ (.d (.tuple (a :: b :: r))) μ := ev_var (List.getElem?_set_self hl)
  refine ⟨_, eg_name, et_test (ev_op (e_at 0 ev rfl) ev_str (rv_eqX (.d _) (.d _) sh sh_fact)), fun _ => ?_⟩
  have := ev_sl (K := K) (μ := μ) ev (eo_some (ev_int (i := 1))) eo_no rs_tup
  rw [cut_drop (by decide)] at this
  exact this
theorem ok_facts_among {K : PySem.W.Frag} {mg : Str → Option Value} {base : Heap} {a : Ad} (T : Txt K mg a) : FnOk Wd.P Wd.w K mg base (L2.CX Wd.P Wd.w) 1 a.f_facts_among a.d_facts_among ["things"] (spOf K 1 phFacts) := by
  refine def_ok T.f_facts_among sc_facts_among rfl fun cdv A outer s H E hr => ?_
  have hu := hr.units
  have hu5 := room65 hr
  refine ⟨_, (pss_one (ps_ret (pe_callTy call_tupU rfl T.z_tuple (by decide +kernel) (pa_cons (pe_lc (own := [("thing", 1)]) (g := (gName 1)) (tt := (tTest (tOp (rEqA K) (tOp (rIxU K) (tVar 1) (tC (.int 0))) (tC (.str "fact"))))) (te := (tSl (rSlU K) (tVar 1) (tPart (tC (.int 1))) tNoPart)) rfl sc_facts_among.nd (by exact (pi_seqW (pv 0))) (blkOk_by (own := [("thing", 1)]) (N := ["things", "thing"]) (sc := defScope s_facts_among) (by decide +kernel)) (fun _ _ _ _ _ => by exact (pg_name (i := 1) sc_facts_among.nd rfl (Or.inl rfl))) (fun _ _ _ _ _ => by exact (pts_one (pt_cmpR (op_eqU hu) (pe_ix (ix_U (by exact ⟨rfl, rfl⟩) hu) (pv 1) pe_int (fun _ _ => rfl)) pe_str (nomark _)))) (fun _ _ _ _ _ => by exact (pe_slice sl_U (pv 1) (po_some pe_int) po_none))) pa_nil)))), ?_⟩
  try dsimp only [cxOf_K]
  rintro ws μ O ⟨xs, rfl, hz, hx, hO⟩ _ _
  change St K _ _ [some _, none] _ _
  exact DL.st_ret (ev_cb (ea_cons (facts_walk (by show 1 < 2; decide) (ev_var rfl) hz hx) ea_nil) (rc_tup (.l (.d _)))) (.inl hO)
theorem texts_walk {K : PySem.W.Frag} {μ : Mu} {te : TE} {δ : Dl} {xs : List PyData} {i : Nat} (hi : i < δ.length) (e : Ev K te δ μ (.d (.tuple xs)) μ) (hz : xs.length ≤ 1000) (hx : ∀ x ∈ xs, IsT x) :
    Ev K (tLc (iSeqW K te) (gName i) (tTest (tOp (rEqA K) (tOp (rIxU K) (tVar i) (tC (V.int 0))) (tC (V.str "rule")))) (tOp (rIxU K) (tVar i) (tC (V.int 1))) [i]) δ μ (.d (.list ((xs.filter isR).map sndD))) μ := by
  have hzz : (xs.map W.d).length ≤ sizeLine := by rw [List.length_map]; exact Nat.le_trans hz (by decide)
  refine ev_is (ev_lcF (f := fun w => sndD (unD w)) (p := fun w => isR (unD w)) (ei_wT e) mg_name (tg_name (by simp)) hzz trivial fun j w hw => ?_) (by rw [unD_map])
  rw [List.getElem?_map] at hw
  obtain ⟨z, hz, rfl⟩ := Option.map_eq_some_iff.mp hw
  obtain ⟨a, b, r, rfl, sh, hr⟩ := thing_at (hx z (List.mem_of_getElem? hz))
  have hl : i < (wipeD δ [i]).length := by show i < ((δ).set i none).length; rw [List.length_set]; exact hi
  have ev : ∀ {μ : Mu}, Ev K (tVar i) ((wipeD δ [i]).set i (some (.d (.tuple (a :: b :: r))))) μ (.d (.tuple (a :: b :: r))) μ := ev_var (List.getElem?_set_self hl)
  exact ⟨_, eg_name, et_test (ev_op (e_at 0 ev rfl) ev_str (rv_eqX (.d _) (.d _) sh sh_rule)), fun _ => e_at 1 ev rfl⟩
theorem ok_texts_among {K : PySem.W.Frag} {mg : Str → Option Value} {base : Heap} {a : Ad} (T : Txt K mg a) : FnOk Wd.P Wd.w K mg base (L2.CX Wd.P Wd.w) 1 a.f_texts_among a.d_texts_among ["things"] (spOf K 1 phTexts) := by
  refine def_ok T.f_texts_among sc_texts_among rfl fun cdv A outer s H E hr => ?_
  have hu := hr.units
  have hu5 := room65 hr
  refine ⟨_, (pss_one (ps_ret (pe_callTy call_tupU rfl T.z_tuple (by decide +kernel) (pa_cons (pe_lc (own := [("thing", 1)]) (g := (gName 1)) (tt := (tTest (tOp (rEqA K) (tOp (rIxU K) (tVar 1) (tC (.int 0))) (tC (.str "rule"))))) (te := (tOp (rIxU K) (tVar 1) (tC (.int 1)))) rfl sc_texts_among.nd (by exact (pi_seqW (pv 0))) (blkOk_by (own := [("thing", 1)]) (N := ["things", "thing"]) (sc := defScope s_texts_among) (by decide +kernel)) (fun _ _ _ _ _ => by exact (pg_name (i := 1) sc_texts_among.nd rfl (Or.inl rfl))) (fun _ _ _ _ _ => by exact (pts_one (pt_cmpR (op_eqU hu) (pe_ix (ix_U (by exact ⟨rfl, rfl⟩) hu) (pv 1) pe_int (fun _ _ => rfl)) pe_str (nomark _)))) (fun _ _ _ _ _ => by exact (pe_ix (ix_U (by exact ⟨rfl, rfl⟩) hu) (pv 1) pe_int (fun _ _ => rfl)))) pa_nil)))), ?_⟩
  try dsimp only [cxOf_K]
  rintro ws μ O ⟨xs, rfl, hz, hx, hO⟩ _ _
  change St K _ _ [some _, none] _ _
  exact DL.st_ret (ev_cb (ea_cons (texts_walk (by show 1 < 2; decide) (ev_var rfl) hz hx) ea_nil) (rc_tup (.l (.d _)))) (.inl hO)
def onlyD (xs ys : List PyData) : List PyData := xs.filter fun x => !(lkD (mkD (ys.map fun y => (NestedKey.tup (keyN y), W.b true))) (.tup (keyN x))).isSome
def phOnly : DL.Spec := fun ws μ O => ∃ xs ys, ws = [.d (.tuple xs), .d (.tuple ys)] ∧ xs.length ≤ 1000 ∧ ys.length ≤ 1000 ∧ (∀ x ∈ xs, IsT x) ∧ (∀ x ∈ ys, IsT x) ∧ O (.ret (.d (.tuple (onlyD xs ys))) μ)
theorem ok_only_in {K : PySem.W.Frag} {mg : Str → Option Value} {base : Heap} {a : Ad} (T : Txt K mg a) : FnOk Wd.P Wd.w K mg base (L2.CX Wd.P Wd.w) 3 a.f_only_in a.d_only_in ["one", "other"] (spOf K 2 phOnly) := by
  refine def_ok T.f_only_in sc_only_in rfl fun cdv A outer s H E hr => ?_
  have hu := hr.units
  have hu5 := room65 hr
  refine ⟨_, (pss_cons (ps_set (i := 2) sc_only_in.nd rfl (Or.inr rfl) (pe_dcN (own := [("thing", 3)]) (g := (gName 3)) (tt := tYes) (tk := (tCallS (spOf K 1 phKey) (WE (fun _ _ _ _ => False)) (tCons (tVar 3) tNil))) (tv := (tC (.bl true))) (by exact ⟨rfl, rfl⟩) (room9 hr) (dn0_ok (by exact ⟨rfl, rfl⟩)) rfl sc_only_in.nd (by exact (pi_seqW (pv 1))) (blkOk_by (own := [("thing", 3)]) (N := ["one", "other", "told", "thing"]) (sc := defScope s_only_in) (by decide +kernel)) (fun _ _ _ _ _ => by exact (pg_name (i := 3) sc_only_in.nd rfl (Or.inl rfl))) (fun _ _ _ _ _ => by exact pts_nil) (fun _ _ _ _ _ => by exact (by exact (pe_callU (ok_key_of T) (hr.mono (by decide)) rfl T.g_key_of T.f_key_of.kp T.b_key_of takes0 (by exact (pa_cons (pv 3) pa_nil))))) (fun _ _ _ _ _ => by exact pe_bl)))
    (pss_one (ps_ret (pe_callTy call_tupU rfl T.z_tuple (by decide +kernel) (pa_cons (pe_lc (own := [("thing", 3)]) (g := (gName 3)) (tt := (tTest (tOp (rNiU K) (tCallS (spOf K 1 phKey) (WE (fun _ _ _ _ => False)) (tCons (tVar 3) tNil)) (tVar 2)))) (te := (tVar 3)) rfl sc_only_in.nd (by exact (pi_seqW (pv 0))) (blkOk_by (own := [("thing", 3)]) (N := ["one", "other", "told", "thing"]) (sc := defScope s_only_in) (by decide +kernel)) (fun _ _ _ _ _ => by exact (pg_name (i := 3) sc_only_in.nd rfl (Or.inl rfl))) (fun _ _ _ _ _ => by exact (pts_one (pt_cmpR (op_niU (by exact ⟨rfl, rfl⟩) hu5) (by exact (pe_callU (ok_key_of T) (hr.mono (by decide)) rfl T.g_key_of T.f_key_of.kp T.b_key_of takes0 (by exact (pa_cons (pv 3) pa_nil)))) (pv 2) (by rfl)))) (fun _ _ _ _ _ => by exact (pv 3))) pa_nil))))), ?_⟩
  try dsimp only [cxOf_K]
  rintro ws μ O ⟨xs, ys, rfl, hzx, hzy, hx, hy, hO⟩ _ hcl
  change St K _ _ [some _, some _, none, none] _ _
  have hzz : (xs.map W.d).length ≤ sizeLine := by rw [List.length_map]; exact Nat.le_trans hzx (by decide)
  have hzz2 : (ys.map W.d).length ≤ sizeLine := by rw [List.length_map]; exact Nat.le_trans hzy (by decide)
  have eM : (ys.map W.d).map (fun w => (NestedKey.tup (keyN (unD w)), W.b true)) = ys.map fun y => (NestedKey.tup (keyN y), W.b true) := by
    rw [List.map_map]
    rfl
  have dc := ev_dcM (K := K) (μ := μ) (δ := [some (.d (.tuple xs)), some (.d (.tuple ys)), none, none]) (wi := iSeqW K (tVar 1)) (tt := tYes) (tk := tCallS (spOf K 1 phKey) (WE (fun _ _ _ _ => False)) (tCons (tVar 3) tNil)) (tv := tC (V.bl true)) (g := gName 3) (vs := [3])
    (kf := fun w => keyN (unD w)) (f := fun _ => .b true) (ei_wT (ev_var rfl)) mg_name (tg_name (by decide)) hzz2 trivial (fun i w hw => by
      rw [List.getElem?_map] at hw
      obtain ⟨z, hz, rfl⟩ := Option.map_eq_some_iff.mp hw
      have hi := hy z (List.mem_of_getElem? hz)
      exact ⟨_, eg_name, et_nil, key_depth hi, ev_call (n := 1) (ea_cons (ev_var rfl) ea_nil) rfl ⟨z, rfl, hi, rfl⟩, ev_bl⟩)
  rw [eM] at dc
  refine st_seq (st_set dc ?_)
  show St _ _ _ _ _ _
  dsimp only [List.set_cons_zero, List.set_cons_succ]
  have hd : (μ ++ [Cell.dn (mkD (ys.map fun y => (NestedKey.tup (keyN y), W.b true)))])[μ.length]? = some (.dn (mkD (ys.map fun y => (NestedKey.tup (keyN y), W.b true)))) := gL
  have lc := ev_lcF (K := K) (μ := μ ++ [Cell.dn (mkD (ys.map fun y => (NestedKey.tup (keyN y), W.b true)))]) (δ := [some (.d (.tuple xs)), some (.d (.tuple ys)), some (.p μ.length), none]) (wi := iSeqW K (tVar 0)) (te := tVar 3) (g := gName 3) (vs := [3])
    (tt := tTest (tOp (rNiU K) (tCallS (spOf K 1 phKey) (WE (fun _ _ _ _ => False)) (tCons (tVar 3) tNil)) (tVar 2)))
    (f := fun w => id (unD w)) (p := fun w => (fun x => !(lkD (mkD (ys.map fun y => (NestedKey.tup (keyN y), W.b true))) (.tup (keyN x))).isSome) (unD w)) (ei_wT (ev_var rfl)) mg_name (tg_name (by decide)) hzz trivial (fun i w hw => by
      rw [List.getElem?_map] at hw
      obtain ⟨z, hz, rfl⟩ := Option.map_eq_some_iff.mp hw
      have hi := hx z (List.mem_of_getElem? hz)
      exact ⟨_, eg_name, et_test (ev_op (ev_call (n := 1) (ea_cons (ev_var rfl) ea_nil) rfl ⟨z, rfl, hi, rfl⟩) (ev_var rfl) (rv_niN hd (key_depth hi))), fun _ => ev_var rfl⟩)
  have e9 := (unD_map xs (fun x => !(lkD (mkD (ys.map fun y => (NestedKey.tup (keyN y), W.b true))) (.tup (keyN x))).isSome) id).trans (List.map_id _)
  exact DL.st_ret (ev_cb (ea_cons (ev_is lc (congrArg (fun l => W.d (.list l)) e9)) ea_nil) (rc_tup (.l (.d _)))) (.inr ⟨μ, [_], rfl, Nat.le_refl _, hcl, trivial, hO⟩)


end Mine
set_option Elab.async false
set_option linter.all false
set_option maxRecDepth 100000
set_option maxHeartbeats 4000000
namespace Mine
open PySem PySem.Spec PyProof.Rows L2 DL
variable [Wd]

local macro_rules | `(tactic| walk_at "e") => `(tactic| first
  | with_reducible exact ev_int
  | with_reducible exact ev_bl
  | with_reducible exact ev_str
  | with_reducible exact ev_non
  | ((with_reducible apply ev_var); rfl)
  | with_reducible exact ea_nil
  | with_reducible exact et_nil
  | with_reducible exact eo_no
  | with_reducible exact rv_addVI
  | with_reducible exact rv_subI
  | with_reducible exact rv_ltV
  | with_reducible exact rv_leV
  | with_reducible exact rv_gtV
  | with_reducible exact rv_geV
  | with_reducible exact rv_eqI
  | with_reducible exact rv_neI
  | with_reducible exact rv_isB
  | with_reducible exact rv_notB
  | ((with_reducible apply rv_modI); first | assumption | omega | skip)
  | ((with_reducible apply rv_divI); first | assumption | (constructor <;> omega) | skip)
  | with_reducible exact ru_I
  | with_reducible exact rc_abs
  | with_reducible exact rc_int
  | with_reducible exact rs_tup
  | with_reducible exact Tru.b _
  | with_reducible exact Tru.n
  | with_reducible exact DL.Seq.t _
  | with_reducible exact DL.Seq.l (Its.d _)
  | with_reducible exact Its.d _
  | with_reducible exact Sees.d _
  | ((with_reducible apply DL.Seq.l); (with_reducible apply DL.Its.p); assumption)
  | ((with_reducible apply DL.Its.p); assumption)
  | (with_reducible apply ev_op) <;> walk_at "e"
  | (with_reducible apply ev_un) <;> walk_at "e"
  | (with_reducible apply ea_cons) <;> walk_at "e"
  | (with_reducible apply ev_cb) <;> walk_at "e"
  | (with_reducible apply et_test) <;> walk_at "e"
  | (with_reducible apply et_not) <;> walk_at "e"
  | (with_reducible apply et_tr) <;> walk_at "e"
  | (with_reducible apply ev_notT) <;> walk_at "e"
  | (with_reducible apply eo_some) <;> walk_at "e"
  | ((with_reducible apply rv_ixQ) <;> first | ((with_reducible show atW _ _ = some _); rfl) | walk_at "e")
  | with_reducible exact rc_isint
  | with_reducible exact rc_isbool
  | with_reducible exact rc_isstr
  | with_reducible exact rc_istuple
  | with_reducible exact rc_islist
  | (with_reducible apply rc_len) <;> walk_at "e"
  | (with_reducible apply ev_fld) <;> walk_at "e"
  | (with_reducible apply ev_sl) <;> walk_at "e"
  
  | with_reducible exact ev_raw
  | with_reducible assumption
  | with_reducible rfl
  | skip)

/-! ### the law's draws -/
def lawCell (ns : List Int) (k : Int) : Int := if k < (ns.length : Int) then (let z := ns.getD k.toNat 0; if z < 0 then -z else z) else 37 * k + 11
def phCell : DL.Spec := fun ws μ O => ∃ ns k, ws = [.d (scr ns), .i k] ∧ 0 ≤ k ∧ O (.ret (.i (lawCell ns k)) μ)
theorem ok_law_cell {K : PySem.W.Frag} {mg : Str → Option Value} {base : Heap} {a : Ad} (T : Txt K mg a) : FnOk Wd.P Wd.w K mg base (L2.CX Wd.P Wd.w) 1 a.f_law_cell a.d_law_cell ["script", "k"] (spOf K 2 phCell) := by
  refine def_ok T.f_law_cell sc_law_cell rfl fun cdv A outer s H E hr => ?_
  have hu := hr.units
  have hu5 := room65 hr
  refine ⟨_, (pss_cons (ps_if (pt_cmpR (op_ltV hu) (pv 1) (pe_callB call_lenU rfl T.z_len (by decide +kernel) (pa_cons (pv 0) pa_nil)) (nomark _)) (pss_one (ps_ret (pe_callB call_absU rfl T.z_abs (by decide +kernel) (pa_cons (pe_callTy call_intU rfl T.z_int (by decide +kernel) (pa_cons (pe_ix (ix_U (by exact ⟨rfl, rfl⟩) hu) (pv 0) (pv 1) (fun _ _ => rfl)) pa_nil)) pa_nil)))) pss_nil)
    (pss_one (ps_ret (pe_op op_addV (pe_op op_mulV pe_int (pv 1)) pe_int)))), ?_⟩
  try dsimp only [cxOf_K]
  rintro ws μ O ⟨ns, k, rfl, h0, hO⟩ _ _
  change St K _ _ [some _, some _] _ _
  refine st_seq (st_if0 (b := decide (k < (ns.length : Int))) ?_ (fun h => ?_) fun h => ?_)
  · refine et_is (b := decide (k < (ns.length : Int))) (et_test (ev_op (ev_var rfl) (ev_cb (ea_cons (ev_var rfl) ea_nil) (rc_len (.l (.d _)))) rv_ltV)) ?_
    simp
  · have hk : k < (ns.length : Int) := of_decide_eq_true h
    have hi : k.toNat < ns.length := by omega
    refine DL.st_ret (w := .i (lawCell ns k)) (μ1 := μ) ?_ (.inl hO)
    refine ev_is (ev_cb (ea_cons (ev_cb (ea_cons (ev_op (z := .i (ns.getD k.toNat 0)) (ev_var rfl) (ev_var rfl) (rv_ixQ (.l (.d _)) ?_)) ea_nil) rc_int) ea_nil) rc_abs) ?_
    · unfold atW ixN
      simp [h0, hk, List.getElem?_map, hi]
    · unfold lawCell
      rw [if_pos hk]
  · have hk : ¬ k < (ns.length : Int) := of_decide_eq_false h
    refine st_next ?_
    refine DL.st_ret (w := .i (lawCell ns k)) (μ1 := μ) ?_ (.inl hO)
    refine ev_is (ev_op (ev_op ev_int (ev_var rfl) (rv_mulVI (.inl ⟨by decide, by decide⟩))) ev_int rv_addVI) ?_
    unfold lawCell
    rw [if_neg hk]
/-- one draw: what is found, the state behind -/
def takeF (ns : List Int) (k big lim : Int) : Int := if 0 < big then big % lim else lawCell ns k % lim
def takeK (k big : Int) : Int := if 0 < big then k else k + 1
def takeB (ns : List Int) (k big lim : Int) : Int := if 0 < big then big / lim else if 10 ^ 9 ≤ lawCell ns k then lawCell ns k / lim else big
def stW (ns : List Int) (k big : Int) : Cell := .lst [.d (scr ns), .i k, .i big]
def takeM (ns : List Int) (k big lim : Int) (n : Nat) (μ : Mu) : Mu := μ.set n (stW ns (takeK k big) (takeB ns k big lim))
def phTake : DL.Spec := fun ws μ O => ∃ n ns k big lim, ws = [.p n, .i lim] ∧ μ[n]? = some (stW ns k big) ∧ 0 ≤ k ∧ 0 < lim ∧ lim < 1073741824 ∧ O (.ret (.i (takeF ns k big lim)) (takeM ns k big lim n μ))
theorem ok_law_take {K : PySem.W.Frag} {mg : Str → Option Value} {base : Heap} {a : Ad} (T : Txt K mg a) : FnOk Wd.P Wd.w K mg base (L2.CX Wd.P Wd.w) 2 a.f_law_take a.d_law_take ["state", "limit"] (spOf K 2 phTake) := by
  refine def_ok T.f_law_take sc_law_take rfl fun cdv A outer s H E hr => ?_
  have hu := hr.units
  have hu5 := room65 hr
  refine ⟨_, (pss_cons (ps_if (pt_cmpR (op_gtV hu) (pe_ix (ix_U (by exact ⟨rfl, rfl⟩) hu) (pv 0) pe_int (fun _ _ => rfl)) pe_int (nomark _)) (pss_cons (ps_set (i := 3) sc_law_take.nd rfl (Or.inl rfl) (pe_op op_modU (pe_callTy call_intU rfl T.z_int (by decide +kernel) (pa_cons (pe_ix (ix_U (by exact ⟨rfl, rfl⟩) hu) (pv 0) pe_int (fun _ _ => rfl)) pa_nil)) (pv 1)))
    (pss_cons (ps_asg (pe_op op_divU (pe_callTy call_intU rfl T.z_int (by decide +kernel) (pa_cons (pe_ix (ix_U (by exact ⟨rfl, rfl⟩) hu) (pv 0) pe_int (fun _ _ => rfl)) pa_nil)) (pv 1)) (pg_sub (pv 0) pe_int (set_U (by exact ⟨rfl, rfl⟩) hu)))
    (pss_one (ps_ret (pv 3))))) pss_nil)
    (pss_cons (ps_set (i := 2) sc_law_take.nd rfl (Or.inl rfl) (by exact (pe_callU (ok_law_cell T) (hr.mono (by decide)) rfl T.g__law_cell T.f_law_cell.kp T.b_law_cell (takes_of rfl rfl rfl rfl) (by exact (pa_cons (pe_ix (ix_U (by exact ⟨rfl, rfl⟩) hu) (pv 0) pe_int (fun _ _ => rfl)) (pa_cons (pe_ix (ix_U (by exact ⟨rfl, rfl⟩) hu) (pv 0) pe_int (fun _ _ => rfl)) pa_nil))))))
    (pss_cons (ps_asg (pe_op op_addV (pe_ix (ix_U (by exact ⟨rfl, rfl⟩) hu) (pv 0) pe_int (fun _ _ => rfl)) pe_int) (pg_sub (pv 0) pe_int (set_U (by exact ⟨rfl, rfl⟩) hu)))
    (pss_cons (ps_if (pt_cmpR (op_geV hu) (pv 2) (pe_op op_powU pe_int pe_int) (nomark _)) (pss_one (ps_asg (pe_op op_divU (pe_callTy call_intU rfl T.z_int (by decide +kernel) (pa_cons (pv 2) pa_nil)) (pv 1)) (pg_sub (pv 0) pe_int (set_U (by exact ⟨rfl, rfl⟩) hu)))) pss_nil)
    (pss_one (ps_ret (pe_op op_modU (pe_callTy call_intU rfl T.z_int (by decide +kernel) (pa_cons (pv 2) pa_nil)) (pv 1)))))))), ?_⟩
  try dsimp only [cxOf_K]
  rintro ws μ O ⟨n, ns, k, big, lim, rfl, hm, h0, h1, h2, hO⟩ _ _
  change St K _ _ [some _, some _, none, none] _ _
  have hlt : n < μ.length := gl hm
  unfold stW at hm
  refine st_seq (st_if0 (b := decide (0 < big)) ?_ (fun h => ?_) fun h => ?_)
  · walk_at "e"
  · have hb : 0 < big := of_decide_eq_true h
    refine st_seq (st_set (w := .i (big % lim)) (μ1 := μ) ?_ ?_)
    · walk_at "e"
    show St _ _ _ _ _ _
    dsimp only [List.set_cons_zero, List.set_cons_succ]
    refine st_seq (st_asg (w := .i (big / lim)) (μ1 := μ) ?_ (eg_subQ (j := 2) (ev_var rfl) ev_int hm rfl) ?_)
    · walk_at "e"
    show St _ _ _ _ _ _
    refine DL.st_ret (ev_var rfl) (.inl ?_)
    have e1 : takeF ns k big lim = big % lim := if_pos hb
    have e2 : takeM ns k big lim n μ = μ.set n (.lst ([W.d (scr ns), .i k, .i big].set 2 (.i (big / lim)))) := by
      unfold takeM takeK takeB
      rw [if_pos hb, if_pos hb]
      rfl
    rw [e1, e2] at hO
    exact hO
  · have hb : ¬ 0 < big := of_decide_eq_false h
    refine st_next ?_
    show St _ _ _ _ _ _
    refine st_seq (st_set (w := .i (lawCell ns k)) (μ1 := μ) ?_ ?_)
    · exact ev_call (ws := [.d (scr ns), .i k]) (μ1 := μ) (by walk_at "e") rfl ⟨ns, k, rfl, h0, rfl⟩
    show St _ _ _ _ _ _
    dsimp only [List.set_cons_zero, List.set_cons_succ]
    refine st_seq (st_asg (w := .i (k + 1)) (μ1 := μ) ?_ (eg_subQ (j := 1) (ev_var rfl) ev_int hm rfl) ?_)
    · walk_at "e"
    show St _ _ _ _ _ _
    have hm2 : (μ.set n (.lst ([W.d (scr ns), .i k, .i big].set 1 (.i (k + 1)))))[n]? = some (.lst [.d (scr ns), .i (k + 1), .i big]) := gS hm
    have hpw : (10 : Int) ^ (9 : Int).toNat = 10 ^ 9 := rfl
    have e1 : takeF ns k big lim = lawCell ns k % lim := if_neg hb
    refine st_seq (st_if0 (b := decide (10 ^ 9 ≤ lawCell ns k)) ?_ (fun h => ?_) fun h => ?_)
    · exact et_test (ev_op (ev_var rfl) (ev_op ev_int ev_int (rv_powI ⟨by decide, by decide, by decide⟩)) rv_geV)
    · have hc : 10 ^ 9 ≤ lawCell ns k := of_decide_eq_true h
      refine st_asg (w := .i (lawCell ns k / lim)) (μ1 := _) ?_ (eg_subQ (j := 2) (ev_var rfl) ev_int hm2 rfl) ?_
      · walk_at "e"
      show St _ _ _ _ _ _
      have e2 : (μ.set n (.lst ([W.d (scr ns), .i k, .i big].set 1 (.i (k + 1))))).set n (.lst ([W.d (scr ns), .i (k + 1), .i big].set 2 (.i (lawCell ns k / lim)))) = takeM ns k big lim n μ := by
        rw [List.set_set]
        unfold takeM takeK takeB
        rw [if_neg hb, if_neg hb, if_pos hc]
        rfl
      rw [e2]
      refine DL.st_ret (w := .i (lawCell ns k % lim)) (μ1 := takeM ns k big lim n μ) ?_ (.inl ?_)
      · walk_at "e"
      · rw [e1] at hO
        exact hO
    · have hc : ¬ 10 ^ 9 ≤ lawCell ns k := of_decide_eq_false h
      refine st_next ?_
      show St _ _ _ _ _ _
      have e2 : (μ.set n (.lst ([W.d (scr ns), .i k, .i big].set 1 (.i (k + 1))))) = takeM ns k big lim n μ := by
        unfold takeM takeK takeB
        rw [if_neg hb, if_neg hb, if_neg hc]
        rfl
      rw [e2]
      refine DL.st_ret (w := .i (lawCell ns k % lim)) (μ1 := takeM ns k big lim n μ) ?_ (.inl ?_)
      · walk_at "e"
      · rw [e1] at hO
        exact hO
theorem ok_law_next {K : PySem.W.Frag} {mg : Str → Option Value} {base : Heap} {a : Ad} (T : Txt K mg a) : FnOk Wd.P Wd.w K mg base (L2.CX Wd.P Wd.w) 3 a.f_law_next a.d_law_next ["state", "limit"] (spOf K 2 phTake) := by
  refine def_ok T.f_law_next sc_law_next rfl fun cdv A outer s H E hr => ?_
  have hu := hr.units
  have hu5 := room65 hr
  refine ⟨_, (pss_one (ps_ret (by exact (pe_callU (ok_law_take T) (hr.mono (by decide)) rfl T.g__law_take T.f_law_take.kp T.b_law_take (takes_of rfl rfl rfl rfl) (by exact (pa_cons (pv 0) (pa_cons (pv 1) pa_nil))))))), ?_⟩
  try dsimp only [cxOf_K]
  rintro ws μ O ⟨n, ns, k, big, lim, rfl, hm, h0, h1, h2, hO⟩ _ _
  change St K _ _ [some _, some _] _ _
  refine DL.st_ret (w := .i (takeF ns k big lim)) (μ1 := takeM ns k big lim n μ) ?_ (.inl hO)
  exact ev_call (ea_cons (ev_var rfl) (ea_cons (ev_var rfl) ea_nil)) rfl ⟨n, ns, k, big, lim, rfl, hm, h0, h1, h2, rfl⟩


end Mine
set_option Elab.async false
set_option linter.all false
set_option maxRecDepth 100000
set_option maxHeartbeats 4000000
namespace Mine
open PySem PySem.Spec PyProof.Rows L2 DL
variable [Wd]

local macro_rules | `(tactic| walk_at "e") => `(tactic| first
  | with_reducible exact ev_int
  | with_reducible exact ev_bl
  | with_reducible exact ev_str
  | with_reducible exact ev_non
  | ((with_reducible apply ev_var); rfl)
  | with_reducible exact ea_nil
  | with_reducible exact et_nil
  | with_reducible exact eo_no
  | with_reducible exact rv_addVI
  | with_reducible exact rv_subI
  | with_reducible exact rv_ltV
  | with_reducible exact rv_leV
  | with_reducible exact rv_gtV
  | with_reducible exact rv_geV
  | with_reducible exact rv_eqI
  | with_reducible exact rv_neI
  | with_reducible exact rv_isB
  | with_reducible exact rv_notB
  | ((with_reducible apply rv_modI); first | assumption | omega | skip)
  | ((with_reducible apply rv_divI); first | assumption | (constructor <;> omega) | skip)
  | with_reducible exact ru_I
  | with_reducible exact rc_abs
  | with_reducible exact rc_int
  | with_reducible exact rs_tup
  | with_reducible exact Tru.b _
  | with_reducible exact Tru.n
  | with_reducible exact DL.Seq.t _
  | with_reducible exact DL.Seq.l (Its.d _)
  | with_reducible exact Its.d _
  | with_reducible exact Sees.d _
  | ((with_reducible apply DL.Seq.l); (with_reducible apply DL.Its.p); assumption)
  | ((with_reducible apply DL.Its.p); assumption)
  | (with_reducible apply ev_op) <;> walk_at "e"
  | (with_reducible apply ev_un) <;> walk_at "e"
  | (with_reducible apply ea_cons) <;> walk_at "e"
  | (with_reducible apply ev_cb) <;> walk_at "e"
  | (with_reducible apply et_test) <;> walk_at "e"
  | (with_reducible apply et_not) <;> walk_at "e"
  | (with_reducible apply et_tr) <;> walk_at "e"
  | (with_reducible apply ev_notT) <;> walk_at "e"
  | (with_reducible apply eo_some) <;> walk_at "e"
  | ((with_reducible apply rv_ixQ) <;> first | ((with_reducible show atW _ _ = some _); rfl) | walk_at "e")
  | with_reducible exact rc_isint
  | with_reducible exact rc_isbool
  | with_reducible exact rc_isstr
  | with_reducible exact rc_istuple
  | with_reducible exact rc_islist
  | (with_reducible apply rc_len) <;> walk_at "e"
  | (with_reducible apply ev_fld) <;> walk_at "e"
  | (with_reducible apply ev_sl) <;> walk_at "e"
  
  | with_reducible exact ev_raw
  | with_reducible assumption
  | with_reducible rfl
  | skip)

theorem takeF_lt {ns : List Int} {k big lim : Int} (h : 0 < lim) : 0 ≤ takeF ns k big lim ∧ takeF ns k big lim < lim := by
  unfold takeF
  split
  · exact ⟨Int.emod_nonneg _ (by omega), Int.emod_lt_of_pos _ h⟩
  · exact ⟨Int.emod_nonneg _ (by omega), Int.emod_lt_of_pos _ h⟩
theorem takeK_le {k big : Int} (h : 0 ≤ k) : 0 ≤ takeK k big := by
  unfold takeK
  split <;> omega
/-! ### drawn values, facts -/
def nums : List PyData := [.int 0, .int 1, .int 2, .int 3, .int 4, .int (-1), .int 7]
def wrds : List PyData := [.str "ann", .str "bob", .str "cat"]
theorem vals_ok : ∀ x ∈ nums ++ wrds, isValue x = true := by
  have : (nums ++ wrds).all isValue = true := by decide +kernel
  exact fun x hx => List.all_eq_true.mp this x hx
/-- the value that is drawn, and the bound of its draw -/
def dLim (s : Str) : Int := if s = "number" then 7 else 3
def dRow (s : Str) : List PyData := if s = "number" then nums else wrds
def dV (ns : List Int) (k big : Int) (s : Str) : PyData := (dRow s).getD (takeF ns k big (dLim s)).toNat .none
theorem dRow_len (s : Str) : ((dRow s).length : Int) = dLim s := by
  unfold dRow dLim
  split <;> rfl
theorem dV_mem (ns : List Int) (k big : Int) (s : Str) : dV ns k big s ∈ nums ++ wrds := by
  have hp : 0 < dLim s := by unfold dLim; split <;> decide
  obtain ⟨r0, r1⟩ := takeF_lt (ns := ns) (k := k) (big := big) (lim := dLim s) hp
  have hl : (takeF ns k big (dLim s)).toNat < (dRow s).length := by have := dRow_len s; omega
  have e : dV ns k big s = (dRow s)[(takeF ns k big (dLim s)).toNat] := by
    unfold dV
    rw [List.getD_eq_getElem?_getD, List.getElem?_eq_getElem hl]; rfl
  rw [e]
  have hm := List.getElem_mem hl
  have hr : dRow s = nums ∨ dRow s = wrds := by unfold dRow; split; exact .inl rfl; exact .inr rfl
  rcases hr with hr | hr
  · exact List.mem_append_left _ (hr ▸ hm)
  · exact List.mem_append_right _ (hr ▸ hm)
def phDrawn : DL.Spec := fun ws μ O => ∃ n ns k big s, ws = [.p n, .s s] ∧ (s = "number" ∨ s = "word") ∧ μ[n]? = some (stW ns k big) ∧ 0 ≤ k ∧ O (.ret (.d (dV ns k big s)) (takeM ns k big (dLim s) n μ))
theorem w_ne_n : ¬ ("word" : Str) = "number" := by decide +kernel
theorem sh_number : SeqAt.shaped (.str "number") = true := by decide +kernel
theorem sh_word : SeqAt.shaped (.str "word") = true := by decide +kernel
theorem nn : PyData.eqv (.str "number") (.str "number") = true := by decide +kernel
theorem wn : PyData.eqv (.str "word") (.str "number") = false := by decide +kernel
theorem ok_law_drawn_value {K : PySem.W.Frag} {mg : Str → Option Value} {base : Heap} {a : Ad} (T : Txt K mg a) : FnOk Wd.P Wd.w K mg base (L2.CX Wd.P Wd.w) 4 a.f_law_drawn_value a.d_law_drawn_value ["state", "sort"] (spOf K 2 phDrawn) := by
  refine def_ok T.f_law_drawn_value sc_law_drawn_value rfl fun cdv A outer s H E hr => ?_
  have hu := hr.units
  have hu5 := room65 hr
  refine ⟨_, (pss_cons (ps_if (pt_cmpR (op_eqU hu) (pv 1) pe_str (nomark _)) (pss_one (ps_ret (pe_ix (ix_U (by exact ⟨rfl, rfl⟩) hu) (pe_lst (pa_cons pe_int (pa_cons pe_int (pa_cons pe_int (pa_cons pe_int (pa_cons pe_int (pa_cons (pe_un un_neg pe_int) (pa_cons pe_int pa_nil)))))))) (by exact (pe_callU (ok_law_next T) (hr.mono (by decide)) rfl T.g__law_next T.f_law_next.kp T.b_law_next (takes_of rfl rfl rfl rfl) (by exact (pa_cons (pv 0) (pa_cons pe_int pa_nil))))) (fun _ _ => rfl)))) pss_nil)
    (pss_one (ps_ret (pe_ix (ix_U (by exact ⟨rfl, rfl⟩) hu) (pe_lst (pa_cons pe_str (pa_cons pe_str (pa_cons pe_str pa_nil)))) (by exact (pe_callU (ok_law_next T) (hr.mono (by decide)) rfl T.g__law_next T.f_law_next.kp T.b_law_next (takes_of rfl rfl rfl rfl) (by exact (pa_cons (pv 0) (pa_cons pe_int pa_nil))))) (fun _ _ => rfl))))), ?_⟩
  try dsimp only [cxOf_K]
  rintro ws μ O ⟨n, ns, k, big, s, rfl, hs, hm, h0, hO⟩ _ _
  change St K _ _ [some _, some _] _ _
  rcases hs with rfl | rfl
  · have e7 : dLim "number" = 7 := if_pos rfl
    rw [e7] at hO
    have t : EvT K (tTest (tOp (rEqA K) (tVar 1) (tC (V.str "number")))) [some (.p n), some (.s "number")] μ true μ := et_is (et_test (ev_op (ev_var rfl) ev_str (rv_eqX (.d _) (.d _) sh_number sh_number))) nn
    refine st_seq (st_if0 (b := true) t (fun _ => ?_) fun h => nomatch h)
    obtain ⟨r0, r1⟩ := takeF_lt (ns := ns) (k := k) (big := big) (lim := 7) (by decide)
    have hl : (takeF ns k big 7).toNat < nums.length := by show _ < 7; omega
    refine DL.st_ret (ev_op (ev_lstD (xs := nums) (ea_cons ev_int (ea_cons ev_int (ea_cons ev_int (ea_cons ev_int (ea_cons ev_int (ea_cons (ev_un ev_int ru_I) (ea_cons ev_int ea_nil))))))) rfl (by show 7 ≤ sizeLine; decide)) (ev_call (n := 2) (ea_cons (ev_var rfl) (ea_cons ev_int ea_nil)) rfl ⟨n, ns, k, big, 7, rfl, hm, h0, by decide, by decide, rfl⟩)
      (rv_ixQ (z := .d (dV ns k big "number")) (.l (.d _)) (atW_nat r0 (by rw [List.getElem?_map, List.getElem?_eq_getElem hl]; show some (W.d _) = some (W.d (nums.getD (takeF ns k big 7).toNat .none)); rw [List.getD_eq_getElem?_getD, List.getElem?_eq_getElem hl]; rfl)))) (.inl hO)
  · have t : EvT K (tTest (tOp (rEqA K) (tVar 1) (tC (V.str "number")))) [some (.p n), some (.s "word")] μ false μ := et_is (et_test (ev_op (ev_var rfl) ev_str (rv_eqX (.d _) (.d _) sh_word sh_number))) wn
    refine st_seq (st_if0 (b := false) t (fun h => nomatch h) fun _ => ?_)
    refine st_next ?_
    show St _ _ _ _ _ _
    obtain ⟨r0, r1⟩ := takeF_lt (ns := ns) (k := k) (big := big) (lim := 3) (by decide)
    have hl : (takeF ns k big 3).toNat < wrds.length := by show _ < 3; omega
    refine DL.st_ret (ev_op (ev_lstD (xs := wrds) (ea_cons ev_str (ea_cons ev_str (ea_cons ev_str ea_nil))) rfl (by show 3 ≤ sizeLine; decide)) (ev_call (n := 2) (ea_cons (ev_var rfl) (ea_cons ev_int ea_nil)) rfl ⟨n, ns, k, big, 3, rfl, hm, h0, by decide, by decide, rfl⟩)
      (rv_ixQ (z := .d (dV ns k big "word")) (.l (.d _)) (atW_nat r0 (by
        rw [List.getElem?_map, List.getElem?_eq_getElem hl]
        have : dV ns k big "word" = wrds[(takeF ns k big 3).toNat] := by
          unfold dV dRow dLim
          rw [if_neg w_ne_n, if_neg w_ne_n, List.getD_eq_getElem?_getD, List.getElem?_eq_getElem hl]; rfl
        rw [this]; rfl)))) (.inl (by
        have : dLim "word" = 3 := if_neg w_ne_n
        rw [this] at hO
        exact hO))
theorem ok_law_key {K : PySem.W.Frag} {mg : Str → Option Value} {base : Heap} {a : Ad} (T : Txt K mg a) : FnOk Wd.P Wd.w K mg base (L2.CX Wd.P Wd.w) 1 a.f_law_key a.d_law_key ["values"] (spOf K 1 phOrder) := by
  refine def_ok T.f_law_key sc_law_key rfl fun cdv A outer s H E hr => ?_
  have hu := hr.units
  have hu5 := room65 hr
  refine ⟨_, (pss_one (ps_ret (pe_callTy call_tupU rfl T.z_tuple (by decide +kernel) (pa_cons (pe_lc (own := [("value", 1)]) (g := (gName 1)) (tt := tYes) (te := (tIf (tTr K (tCB (rIsi K) (tCons (tVar 1) (tCons (tC (.ty "str")) tNil)))) (tTup (tCons (tC (.int 1)) (tCons (tC (.int 0)) (tCons (tVar 1) tNil)))) (tTup (tCons (tC (.int 0)) (tCons (tVar 1) (tCons (tC (.str "")) tNil)))))) rfl sc_law_key.nd (by exact (pi_seqW (pv 0))) (blkOk_by (own := [("value", 1)]) (N := ["values", "value"]) (sc := defScope s_law_key) (by decide +kernel)) (fun _ _ _ _ _ => by exact (pg_name (i := 1) sc_law_key.nd rfl (Or.inl rfl))) (fun _ _ _ _ _ => by exact pts_nil) (fun _ _ _ _ _ => by exact (pe_ifExp (pt_tr (pe_callB call_isi rfl T.z_isinstance (by decide +kernel) (pa_cons (pv 1) (pa_cons (pe_bltn (v := .ty "str") (u := .type "str") rfl T.z_str (by decide +kernel) rfl) pa_nil)))) (pe_tup (pa_cons pe_int (pa_cons pe_int (pa_cons (pv 1) pa_nil)))) (pe_tup (pa_cons pe_int (pa_cons (pv 1) (pa_cons pe_str pa_nil))))))) pa_nil)))), ?_⟩
  try dsimp only [cxOf_K]
  rintro ws μ O ⟨y, xs, rfl, hy, hz, hO⟩ _ _
  change St K _ _ [some _, none] _ _
  exact DL.st_ret (ev_cb (ea_cons (ord_walk hy hz) ea_nil) (rc_tup (.l (.d _)))) (.inl hO)
theorem ok_law_thing_key {K : PySem.W.Frag} {mg : Str → Option Value} {base : Heap} {a : Ad} (T : Txt K mg a) : FnOk Wd.P Wd.w K mg base (L2.CX Wd.P Wd.w) 2 a.f_law_thing_key a.d_law_thing_key ["thing"] (spOf K 1 phKey) := by
  refine def_ok T.f_law_thing_key sc_law_thing_key rfl fun cdv A outer s H E hr => ?_
  have hu := hr.units
  have hu5 := room65 hr
  refine ⟨_, (pss_one (ps_ret (pe_ifExp (pt_cmpR (op_eqU hu) (pe_ix (ix_U (by exact ⟨rfl, rfl⟩) hu) (pv 0) pe_int (fun _ _ => rfl)) pe_str (nomark _)) (pe_tup (pa_cons pe_int (pa_cons (pe_ix (ix_U (by exact ⟨rfl, rfl⟩) hu) (pv 0) pe_int (fun _ _ => rfl)) (pa_cons (by exact (pe_callU (ok_law_key T) (hr.mono (by decide)) rfl T.g__law_key T.f_law_key.kp T.b_law_key (takes_of rfl rfl rfl rfl) (by exact (pa_cons (pe_ix (ix_U (by exact ⟨rfl, rfl⟩) hu) (pv 0) pe_int (fun _ _ => rfl)) pa_nil)))) pa_nil)))) (pe_tup (pa_cons pe_int (pa_cons (pe_ix (ix_U (by exact ⟨rfl, rfl⟩) hu) (pv 0) pe_int (fun _ _ => rfl)) (pa_cons (pe_tup pa_nil) pa_nil))))))), ?_⟩
  try dsimp only [cxOf_K]
  rintro ws μ O ⟨x, rfl, hx, hO⟩ _ _
  change St K _ _ [some _] _ _
  have ex : ∀ {μ : Mu}, Ev K (tVar 0) [some (.d x)] μ (.d x) μ := ev_var rfl
  cases hx with
  | fact r zs h1 h2 h3 =>
    rw [key_fact h1] at hO
    have t0 : EvT K (tTest (tOp (rEqA K) (tOp (rIxU K) (tVar 0) (tC (V.int 0))) (tC (V.str "fact")))) [some (.d (.tuple [.str "fact", .str r, .tuple zs]))] μ true μ := et_is (et_test (ev_op (e_at 0 ex rfl) ev_str (rv_eqX (.d _) (.d _) sh_fact sh_fact))) ff
    refine DL.st_ret (ev_if t0 (fun _ => ev_tup (xs := [.int 0, .str r, ordD zs]) (ea_cons ev_int (ea_cons (e_at 1 ex rfl) (ea_cons (ev_call (n := 1) (w := .d (ordD zs)) (ea_cons (e_at 2 ex rfl) ea_nil) rfl ⟨.tuple zs, zs, rfl, .inr rfl, by omega, rfl⟩) ea_nil))) rfl (by show 3 ≤ sizeLine; decide)) fun h => nomatch h) (.inl hO)
  | rule t h =>
    have t0 : EvT K (tTest (tOp (rEqA K) (tOp (rIxU K) (tVar 0) (tC (V.int 0))) (tC (V.str "fact")))) [some (.d (.tuple [.str "rule", .str t]))] μ false μ := et_is (et_test (ev_op (e_at 0 ex rfl) ev_str (rv_eqX (.d _) (.d _) sh_rule sh_fact))) rf
    refine DL.st_ret (ev_if t0 (fun h => nomatch h) fun _ => ev_tup (xs := [.int 1, .str t, .tuple []]) (ea_cons ev_int (ea_cons (e_at 1 ex rfl) (ea_cons (ev_tup (xs := []) ea_nil rfl (Nat.zero_le _)) ea_nil))) rfl (by show 3 ≤ sizeLine; decide)) (.inl hO)


end Mine
set_option Elab.async false
set_option linter.all false
set_option maxRecDepth 100000
set_option maxHeartbeats 4000000
namespace Mine
open PySem PySem.Spec PyProof.Rows L2 DL
variable [Wd]

local macro_rules | `(tactic| walk_at "e") => `(tactic| first
  | with_reducible exact ev_int
  | with_reducible exact ev_bl
  | with_reducible exact ev_str
  | with_reducible exact ev_non
  | ((with_reducible apply ev_var); rfl)
  | with_reducible exact ea_nil
  | with_reducible exact et_nil
  | with_reducible exact eo_no
  | with_reducible exact rv_addVI
  | with_reducible exact rv_subI
  | with_reducible exact rv_ltV
  | with_reducible exact rv_leV
  | with_reducible exact rv_gtV
  | with_reducible exact rv_geV
  | with_reducible exact rv_eqI
  | with_reducible exact rv_neI
  | with_reducible exact rv_isB
  | with_reducible exact rv_notB
  | ((with_reducible apply rv_modI); first | assumption | omega | skip)
  | ((with_reducible apply rv_divI); first | assumption | (constructor <;> omega) | skip)
  | with_reducible exact ru_I
  | with_reducible exact rc_abs
  | with_reducible exact rc_int
  | with_reducible exact rs_tup
  | with_reducible exact Tru.b _
  | with_reducible exact Tru.n
  | with_reducible exact DL.Seq.t _
  | with_reducible exact DL.Seq.l (Its.d _)
  | with_reducible exact Its.d _
  | with_reducible exact Sees.d _
  | ((with_reducible apply DL.Seq.l); (with_reducible apply DL.Its.p); assumption)
  | ((with_reducible apply DL.Its.p); assumption)
  | (with_reducible apply ev_op) <;> walk_at "e"
  | (with_reducible apply ev_un) <;> walk_at "e"
  | (with_reducible apply ea_cons) <;> walk_at "e"
  | (with_reducible apply ev_cb) <;> walk_at "e"
  | (with_reducible apply et_test) <;> walk_at "e"
  | (with_reducible apply et_not) <;> walk_at "e"
  | (with_reducible apply et_tr) <;> walk_at "e"
  | (with_reducible apply ev_notT) <;> walk_at "e"
  | (with_reducible apply eo_some) <;> walk_at "e"
  | ((with_reducible apply rv_ixQ) <;> first | ((with_reducible show atW _ _ = some _); rfl) | walk_at "e")
  | with_reducible exact rc_isint
  | with_reducible exact rc_isbool
  | with_reducible exact rc_isstr
  | with_reducible exact rc_istuple
  | with_reducible exact rc_islist
  | (with_reducible apply rc_len) <;> walk_at "e"
  | (with_reducible apply ev_fld) <;> walk_at "e"
  | (with_reducible apply ev_sl) <;> walk_at "e"
  
  | with_reducible exact ev_raw
  | with_reducible assumption
  | with_reducible rfl
  | skip)

theorem ei_wQ {K : PySem.W.Frag} {δ : Dl} {μ μ1 : Mu} {te : TE} {w : W} {ws : List W} (e : Ev K te δ μ w μ1) (h : DL.Seq μ1 w ws) : ∃ Kp : Mu → Prop, EvI K (iSeqW K te) δ μ ws Kp μ1 ∧ Kp μ1 := by
  cases h with
  | l h =>
    refine ⟨_, ei_wL e h, ?_⟩
    cases h with
    | d xs => trivial
    | p hn => exact hn
  | t xs => exact ⟨_, ei_wT e, trivial⟩
def phOrdered : DL.Spec := fun ws μ O => ∃ w xs, ws = [w] ∧ DL.Seq μ w (xs.map .d) ∧ xs.length ≤ 1000 ∧ (∀ x ∈ xs, IsT x) ∧ O (.ret (.d (.tuple (inOrd xs))) μ)
theorem ok_law_ordered {K : PySem.W.Frag} {mg : Str → Option Value} {base : Heap} {a : Ad} (T : Txt K mg a) : FnOk Wd.P Wd.w K mg base (L2.CX Wd.P Wd.w) 3 a.f_law_ordered a.d_law_ordered ["things"] (spOf K 1 phOrdered) := by
  refine def_ok T.f_law_ordered sc_law_ordered rfl fun cdv A outer s H E hr => ?_
  have hu := hr.units
  have hu5 := room65 hr
  refine ⟨_, (pss_cons (ps_set (i := 1) sc_law_ordered.nd rfl (Or.inr rfl) (pe_callTy (cr_dictP (by exact ⟨rfl, rfl⟩) rfl hu) rfl T.z_dict (by decide +kernel) (pa_cons (pe_lc (own := [("thing", 2)]) (g := (gName 2)) (tt := tYes) (te := (tTup (tCons (tCallS (spOf K 1 phKey) (WE (fun _ _ _ _ => False)) (tCons (tVar 2) tNil)) (tCons (tVar 2) tNil)))) rfl sc_law_ordered.nd (by exact (pi_seqW (pv 0))) (blkOk_by (own := [("thing", 2)]) (N := ["things", "found", "thing", "key"]) (sc := defScope s_law_ordered) (by decide +kernel)) (fun _ _ _ _ _ => by exact (pg_name (i := 2) sc_law_ordered.nd rfl (Or.inl rfl))) (fun _ _ _ _ _ => by exact pts_nil) (fun _ _ _ _ _ => by exact (pe_tup (pa_cons (by exact (pe_callU (ok_law_thing_key T) (hr.mono (by decide)) rfl T.g__law_thing_key T.f_law_thing_key.kp T.b_law_thing_key takes0 (by exact (pa_cons (pv 2) pa_nil)))) (pa_cons (pv 2) pa_nil))))) pa_nil)))
    (pss_one (ps_ret (pe_callTy call_tupU rfl T.z_tuple (by decide +kernel) (pa_cons (pe_lc (own := [("key", 3)]) (g := (gName 3)) (tt := tYes) (te := (tOp (rIxU K) (tVar 1) (tVar 3))) rfl sc_law_ordered.nd (by exact (pi_seqW (pe_callB (cr_sortU (by exact ⟨rfl, rfl⟩) rfl hu) rfl T.z_sorted (by decide +kernel) (pa_cons (pv 1) pa_nil)))) (blkOk_by (own := [("key", 3)]) (N := ["things", "found", "thing", "key"]) (sc := defScope s_law_ordered) (by decide +kernel)) (fun _ _ _ _ _ => by exact (pg_name (i := 3) sc_law_ordered.nd rfl (Or.inl rfl))) (fun _ _ _ _ _ => by exact pts_nil) (fun _ _ _ _ _ => by exact (pe_ix (ix_U (by exact ⟨rfl, rfl⟩) hu) (pv 1) (pv 3) (fun _ _ => rfl)))) pa_nil))))), ?_⟩
  try dsimp only [cxOf_K]
  rintro ws μ O ⟨y, xs, rfl, hseq, hz, ht, hO⟩ _ hcl
  change St K _ _ [some _, none, none, none] _ _
  have hzz : (xs.map W.d).length ≤ sizeLine := by rw [List.length_map]; exact Nat.le_trans hz (by decide)
  obtain ⟨Kp, hi, hk⟩ := ei_wQ (K := K) (δ := [some y, none, none, none]) (te := tVar 0) (ev_var rfl) hseq
  have lc := ev_lcM (K := K) (tt := tYes) (te := tTup (tCons (tCallS (spOf K 1 phKey) (WE (fun _ _ _ _ => False)) (tCons (tVar 2) tNil)) (tCons (tVar 2) tNil))) (g := gName 2) (vs := [2])
    (f := fun w => PyData.tuple [NestedKey.data (.tup (keyN (unD w))), unD w]) hi mg_name (tg_name (by decide)) hzz hk (fun i w hw => by
      rw [List.getElem?_map] at hw
      obtain ⟨z, hz, rfl⟩ := Option.map_eq_some_iff.mp hw
      have hi := ht z (List.mem_of_getElem? hz)
      exact ⟨_, eg_name, et_nil, ev_tup (xs := [NestedKey.data (.tup (keyN z)), z]) (ea_cons (ev_call (n := 1) (ea_cons (ev_var rfl) ea_nil) rfl ⟨z, rfl, hi, rfl⟩) (ea_cons (ev_var rfl) ea_nil)) rfl (by show 2 ≤ sizeLine; decide)⟩)
  have e0 : (xs.map W.d).map (fun w => PyData.tuple [NestedKey.data (.tup (keyN (unD w))), unD w]) = (xs.map fun x => (keyN x, x)).map fun p => PyData.tuple [NestedKey.data (.tup p.1), p.2] := by
    rw [List.map_map, List.map_map]
    rfl
  rw [e0] at lc
  have its : DL.Its μ (.d (.list ((xs.map fun x => (keyN x, x)).map fun p => PyData.tuple [NestedKey.data (.tup p.1), p.2]))) ((xs.map fun x => (keyN x, x)).map fun p => W.d (.tuple [NestedKey.data (.tup p.1), p.2])) := by
    have := DL.Its.d (μ := μ) ((xs.map fun x => (keyN x, x)).map fun p => PyData.tuple [NestedKey.data (.tup p.1), p.2])
    rw [List.map_map (f := fun p : List NK × PyData => PyData.tuple [NestedKey.data (.tup p.1), p.2])] at this
    exact this
  have dc := ev_cb (K := K) (δ := [some y, none, none, none]) (ea_cons lc ea_nil) (rc_dictN (K := K) its fun p hp => by
    obtain ⟨x, hx, rfl⟩ := List.mem_map.mp hp
    exact key_depth (ht x hx))
  have e1 : ((xs.map fun x => (keyN x, x)).map fun p => (NestedKey.tup p.1, W.d p.2)) = xs.map keyP := by
    rw [List.map_map]
    rfl
  rw [e1] at dc
  refine st_seq (st_set dc ?_)
  show St _ _ _ _ _ _
  dsimp only [List.set_cons_zero, List.set_cons_succ]
  have hd : (μ ++ [Cell.dn (mkD (xs.map keyP))])[μ.length]? = some (.dn (mkD (xs.map keyP))) := gL
  have mem : ∀ p ∈ mkD (xs.map keyP), ∃ x, IsT x ∧ p.1 = .tup (keyN x) := fun p hp => by
    obtain ⟨x, hx, e⟩ := List.mem_map.mp (mkD_mem hp)
    exact ⟨x, ht x hx, by rw [← e]; rfl⟩
  have srt := ev_cb (K := K) (δ := [some y, some (.p μ.length), none, none]) (tl := tCons (tVar 1) tNil) (ea_cons (ev_var rfl) ea_nil) (rc_sortN hd (sort_ok mem))
  rw [sortP_keys] at srt
  have hl : (mkD (xs.map keyP)).length ≤ 1000 := by
    have := mk_len (xs.map keyP)
    rw [List.length_map] at this
    omega
  have lst := ev_lcD (K := K) (μ' := μ ++ [Cell.dn (mkD (xs.map keyP))]) (te := tOp (rIxU K) (tVar 1) (tVar 3)) (tt := tYes) (g := gName 3) (vs := [3]) (xs := inOrd xs) (ei_wL srt (.d _)) mg_name (tg_name (by decide)) (by rw [List.length_map, List.length_map, sortP_len]; exact Nat.le_trans hl (by decide))
    (fun i μi acc => μi = μ ++ [Cell.dn (mkD (xs.map keyP))] ∧ acc = (((inP xs).take i).map fun p => unD p.2).map .d) ⟨rfl, rfl⟩ (fun i μi acc z => trivial) (fun i w μi acc hw z => by
      obtain ⟨rfl, rfl⟩ := z
      rw [List.map_map, List.getElem?_map] at hw
      obtain ⟨p, hp, rfl⟩ := Option.map_eq_some_iff.mp hw
      have hp : (inP xs)[i]? = some p := hp
      obtain ⟨x, hx, e⟩ := inP_mem (List.mem_of_getElem? hp)
      have hk := lkD_mem (mkD_nodup (xs.map keyP)) (sortP_mem.mp (List.mem_of_getElem? hp))
      refine ⟨_, _, true, _, eg_name, et_nil, fun _ => ⟨.d (unD p.2), _, ?_, rfl, ?_⟩, fun h => nomatch h⟩
      · rw [e] at hk ⊢
        exact ev_op (ev_var rfl) (ev_var rfl) (rv_ixN hd (key_depth (ht x hx)) hk)
      · rw [take_more hp, List.map_append, List.map_append]
        rfl) fun μi acc z => by
      obtain ⟨rfl, rfl⟩ := z
      refine ⟨rfl, ?_⟩
      rw [List.length_map, List.length_map]
      show (((inP xs).take (inP xs).length).map fun p => unD p.2).map W.d = _
      rw [List.take_length]
      rfl
  exact DL.st_ret (ev_cb (ea_cons lst ea_nil) (rc_tup (.l (.d _)))) (.inr ⟨μ, [_], rfl, Nat.le_refl _, hcl, trivial, hO⟩)


end Mine
set_option Elab.async false
set_option linter.all false
set_option maxRecDepth 100000
set_option maxHeartbeats 4000000
namespace Mine
open PySem PySem.Spec PyProof.Rows L2 DL
variable [Wd]

local macro_rules | `(tactic| walk_at "e") => `(tactic| first
  | with_reducible exact ev_int
  | with_reducible exact ev_bl
  | with_reducible exact ev_str
  | with_reducible exact ev_non
  | ((with_reducible apply ev_var); rfl)
  | with_reducible exact ea_nil
  | with_reducible exact et_nil
  | with_reducible exact eo_no
  | with_reducible exact rv_addVI
  | with_reducible exact rv_subI
  | with_reducible exact rv_ltV
  | with_reducible exact rv_leV
  | with_reducible exact rv_gtV
  | with_reducible exact rv_geV
  | with_reducible exact rv_eqI
  | with_reducible exact rv_neI
  | with_reducible exact rv_isB
  | with_reducible exact rv_notB
  | ((with_reducible apply rv_modI); first | assumption | omega | skip)
  | ((with_reducible apply rv_divI); first | assumption | (constructor <;> omega) | skip)
  | with_reducible exact ru_I
  | with_reducible exact rc_abs
  | with_reducible exact rc_int
  | with_reducible exact rs_tup
  | with_reducible exact Tru.b _
  | with_reducible exact Tru.n
  | with_reducible exact DL.Seq.t _
  | with_reducible exact DL.Seq.l (Its.d _)
  | with_reducible exact Its.d _
  | with_reducible exact Sees.d _
  | ((with_reducible apply DL.Seq.l); (with_reducible apply DL.Its.p); assumption)
  | ((with_reducible apply DL.Its.p); assumption)
  | (with_reducible apply ev_op) <;> walk_at "e"
  | (with_reducible apply ev_un) <;> walk_at "e"
  | (with_reducible apply ea_cons) <;> walk_at "e"
  | (with_reducible apply ev_cb) <;> walk_at "e"
  | (with_reducible apply et_test) <;> walk_at "e"
  | (with_reducible apply et_not) <;> walk_at "e"
  | (with_reducible apply et_tr) <;> walk_at "e"
  | (with_reducible apply ev_notT) <;> walk_at "e"
  | (with_reducible apply eo_some) <;> walk_at "e"
  | ((with_reducible apply rv_ixQ) <;> first | ((with_reducible show atW _ _ = some _); rfl) | walk_at "e")
  | with_reducible exact rc_isint
  | with_reducible exact rc_isbool
  | with_reducible exact rc_isstr
  | with_reducible exact rc_istuple
  | with_reducible exact rc_islist
  | (with_reducible apply rc_len) <;> walk_at "e"
  | (with_reducible apply ev_fld) <;> walk_at "e"
  | (with_reducible apply ev_sl) <;> walk_at "e"
  
  | with_reducible exact ev_raw
  | with_reducible assumption
  | with_reducible rfl
  | skip)

def txt1 (z : PyData) : Str := match z with
  | .str s => ("'" : Str) ++ s
  | .int i => toString i
  | _ => ""
def vtxt (zs : List PyData) : Str := Txt.join ", " (zs.map txt1)
def lineOf (x : PyData) : Str := match x with
  | .tuple [_, .str r, .tuple zs] => r ++ ("(" : Str) ++ vtxt zs ++ (")" : Str)
  | .tuple [_, .str t] => ("rule " : Str) ++ t
  | _ => ""
/-- lengths that a line stays within -/
structure LineOk (x : PyData) : Prop where
  fa : ∀ a r zs, x = .tuple [a, .str r, .tuple zs] → zs.length ≤ 6 ∧ r.length ≤ 1000 ∧ (vtxt zs).length ≤ 10000 ∧ ((zs.map txt1).map (·.length)).sum ≤ 10000 ∧
    (∀ z ∈ zs, (∀ i, z = .int i → i.natAbs.log2 < 1920) ∧ (∀ s, z = .str s → s.length ≤ 1000))
  ru : ∀ a t, x = .tuple [a, .str t] → t.length ≤ 1000
theorem str_add (a b : Str) : (a ++ b).length = a.length + b.length := by
  show (a.cps ++ b.cps).size = a.cps.size + b.cps.size
  exact Array.size_append
theorem txt_walk {K : PySem.W.Frag} {μ : Mu} {te : TE} {δ : Dl} {zs : List PyData} {i : Nat} (hi : i < δ.length) (e : Ev K te δ μ (.d (.tuple zs)) μ) (hz : zs.length ≤ 6) (hv : ∀ z ∈ zs, isValue z = true)
    (hb : ∀ z ∈ zs, (∀ i, z = .int i → i.natAbs.log2 < 1920) ∧ (∀ s, z = .str s → s.length ≤ 1000)) :
    Ev K (tLc (iSeqW K te) (gName i) tYes (tIf (tTr K (tCB (rIsi K) (tCons (tVar i) (tCons (tC (V.ty "str")) tNil)))) (tOp (rAddV K) (tC (V.str "'")) (tVar i)) (tCB rStrU (tCons (tVar i) tNil))) [i]) δ μ (.d (.list (zs.map fun z => .str (txt1 z)))) μ := by
  have hzz : (zs.map W.d).length ≤ sizeLine := by rw [List.length_map]; exact Nat.le_trans hz (by decide)
  refine ev_is (ev_lcM (f := fun w => .str (txt1 (unD w))) (ei_wT e) mg_name (tg_name (by simp)) hzz trivial fun j w hw => ?_) (by rw [List.map_map]; rfl)
  rw [List.getElem?_map] at hw
  obtain ⟨z, hz, rfl⟩ := Option.map_eq_some_iff.mp hw
  have hm := List.mem_of_getElem? hz
  have hl : i < (wipeD δ [i]).length := by show i < ((δ).set i none).length; rw [List.length_set]; exact hi
  have ev : ∀ {μ : Mu}, Ev K (tVar i) ((wipeD δ [i]).set i (some (.d z))) μ (.d z) μ := ev_var (List.getElem?_set_self hl)
  have ht : EvT K (tTr K (tCB (rIsi K) (tCons (tVar i) (tCons (tC (V.ty "str")) tNil)))) ((wipeD δ [i]).set i (some (.d z))) μ (isaStr z) μ := et_tr (w := .b (isaStr z)) (ev_cb (ea_cons ev (ea_cons ev_raw ea_nil)) rc_isstr) (.b _)
  refine ⟨_, eg_name, et_nil, ev_if ht (fun h => ?_) fun h => ?_⟩
  · cases z with
    | str s => exact ev_op ev_str ev (rv_addVS (by
        have := (hb _ hm).2 s rfl
        have e1 : ("'" : Str).length = 1 := by decide +kernel
        have := sizeLine_eq
        omega))
    | _ => cases h
  · have hv' := hv z hm
    cases z with
    | int k => exact ev_cb (ea_cons ev ea_nil) (rc_strI ((hb _ hm).1 k rfl))
    | str s => cases h
    | _ => cases hv'
def phLine : DL.Spec := fun ws μ O => ∃ x, ws = [.d x] ∧ IsT x ∧ LineOk x ∧ O (.ret (.s (lineOf x)) μ)
theorem l_rule : ("rule " : Str).length = 5 := by decide +kernel
theorem l_open : ("(" : Str).length = 1 := by decide +kernel
theorem l_shut : (")" : Str).length = 1 := by decide +kernel
theorem l_comma : (", " : Str).length = 2 := by decide +kernel
theorem line_walk {K : PySem.W.Frag} {μ : Mu} {te tj : TE} {δ : Dl} {a : PyData} {r : Str} {zs : List PyData} (e : Ev K te δ μ (.d (.tuple [a, .str r, .tuple zs])) μ) (ok : LineOk (.tuple [a, .str r, .tuple zs]))
    (ej : Ev K tj δ μ (.d (.list (zs.map fun z => .str (txt1 z)))) μ) :
    Ev K (tOp (rAddV K) (tOp (rAddV K) (tOp (rAddV K) (tOp (rIxU K) te (tC (V.int 1))) (tC (V.str "("))) (tBM K "str" (rJoinU K) (tC (V.str ", ")) (tCons tj tNil))) (tC (V.str ")"))) δ μ (.s (lineOf (.tuple [a, .str r, .tuple zs]))) μ := by
  obtain ⟨h1, h2, h3, h4, h5⟩ := ok.fa a r zs rfl
  have hs := sizeLine_eq
  have a1 := l_open
  have a2 := l_shut
  have its : DL.Its μ (.d (.list (zs.map fun z => PyData.str (txt1 z)))) ((zs.map txt1).map fun y => W.d (.str y)) := by
    have := DL.Its.d (μ := μ) (zs.map fun z => PyData.str (txt1 z))
    rw [List.map_map] at this ⊢
    exact this
  have j := ev_bm (K := K) (T := "str") tyv_str (ev_str (δ := δ) (b := ", ")) (ea_cons ej ea_nil) (rm_join (a := ", ") its (by
    rw [List.length_map, l_comma]
    omega))
  have s1 := ev_op (e_at 1 e rfl) (ev_str (b := "(")) (rv_addVS (a := r) (by omega))
  have s2 := ev_op s1 j (rv_addVS (by
    show (r ++ ("(" : Str)).length + (vtxt zs).length ≤ sizeLine
    rw [str_add]
    omega))
  exact ev_op s2 ev_str (rv_addVS (by
    show (r ++ ("(" : Str) ++ vtxt zs).length + (")" : Str).length ≤ sizeLine
    rw [str_add, str_add]
    omega))
theorem ok_law_line {K : PySem.W.Frag} {mg : Str → Option Value} {base : Heap} {a : Ad} (T : Txt K mg a) : FnOk Wd.P Wd.w K mg base (L2.CX Wd.P Wd.w) 1 a.f_law_line a.d_law_line ["thing"] (spOf K 1 phLine) := by
  refine def_ok T.f_law_line sc_law_line rfl fun cdv A outer s H E hr => ?_
  have hu := hr.units
  have hu5 := room65 hr
  refine ⟨_, (pss_cons (ps_if (pt_cmpR (op_eqU hu) (pe_ix (ix_U (by exact ⟨rfl, rfl⟩) hu) (pv 0) pe_int (fun _ _ => rfl)) pe_str (nomark _)) (pss_one (ps_ret (pe_op op_addV pe_str (pe_ix (ix_U (by exact ⟨rfl, rfl⟩) hu) (pv 0) pe_int (fun _ _ => rfl))))) pss_nil)
    (pss_one (ps_ret (pe_op op_addV (pe_op op_addV (pe_op op_addV (pe_ix (ix_U (by exact ⟨rfl, rfl⟩) hu) (pv 0) pe_int (fun _ _ => rfl)) pe_str) (pe_bm PySem.F.plainAttrs_str PySem.F.slot_str_join PySem.F.type_str_join mt_joinU pe_str (pa_cons (pe_lc (own := [("value", 1)]) (g := (gName 1)) (tt := tYes) (te := (tIf (tTr K (tCB (rIsi K) (tCons (tVar 1) (tCons (tC (.ty "str")) tNil)))) (tOp (rAddV K) (tC (.str "'")) (tVar 1)) (tCB rStrU (tCons (tVar 1) tNil)))) rfl sc_law_line.nd (by exact (pi_seqW (pe_ix (ix_U (by exact ⟨rfl, rfl⟩) hu) (pv 0) pe_int (fun _ _ => rfl)))) (blkOk_by (own := [("value", 1)]) (N := ["thing", "value"]) (sc := defScope s_law_line) (by decide +kernel)) (fun _ _ _ _ _ => by exact (pg_name (i := 1) sc_law_line.nd rfl (Or.inl rfl))) (fun _ _ _ _ _ => by exact pts_nil) (fun _ _ _ _ _ => by exact (pe_ifExp (pt_tr (pe_callB call_isi rfl T.z_isinstance (by decide +kernel) (pa_cons (pv 1) (pa_cons (pe_bltn (v := .ty "str") (u := .type "str") rfl T.z_str (by decide +kernel) rfl) pa_nil)))) (pe_op op_addV pe_str (pv 1)) (pe_callTy call_strU rfl T.z_str (by decide +kernel) (pa_cons (pv 1) pa_nil))))) pa_nil))) pe_str)))), ?_⟩
  try dsimp only [cxOf_K]
  rintro ws μ O ⟨x, rfl, hx, ok, hO⟩ _ _
  change St K _ _ [some _, none] _ _
  have ex : ∀ {δ1 : Option W} {μ : Mu}, Ev K (tVar 0) [some (.d x), δ1] μ (.d x) μ := ev_var rfl
  cases hx with
  | fact r zs h1 h2 h3 =>
    have t0 : EvT K (tTest (tOp (rEqA K) (tOp (rIxU K) (tVar 0) (tC (V.int 0))) (tC (V.str "rule")))) [some (.d (.tuple [.str "fact", .str r, .tuple zs])), none] μ false μ := et_is (et_test (ev_op (e_at 0 ex rfl) ev_str (rv_eqX (.d _) (.d _) sh_fact sh_rule))) fr
    refine st_seq (st_if0 (b := false) t0 (fun h => nomatch h) fun _ => ?_)
    refine st_next ?_
    show St _ _ _ _ _ _
    exact DL.st_ret (line_walk ex ok (txt_walk (by show 1 < 2; decide) (e_at 2 ex rfl) h2 h1 (ok.fa _ _ _ rfl).2.2.2.2)) (.inl hO)
  | rule t h =>
    have t0 : EvT K (tTest (tOp (rEqA K) (tOp (rIxU K) (tVar 0) (tC (V.int 0))) (tC (V.str "rule")))) [some (.d (.tuple [.str "rule", .str t])), none] μ true μ := et_is (et_test (ev_op (e_at 0 ex rfl) ev_str (rv_eqX (.d _) (.d _) sh_rule sh_rule))) rr
    refine st_seq (st_if0 (b := true) t0 (fun _ => ?_) fun h => nomatch h)
    have := ok.ru _ t rfl
    have hs := sizeLine_eq
    have a1 := l_rule
    exact DL.st_ret (ev_op ev_str (e_at 1 ex rfl) (rv_addVS (by omega))) (.inl hO)


end Mine
set_option Elab.async false
set_option linter.all false
set_option maxRecDepth 100000
set_option maxHeartbeats 4000000
namespace Mine
open PySem PySem.Spec PyProof.Rows L2 DL
variable [Wd]

local macro_rules | `(tactic| walk_at "e") => `(tactic| first
  | with_reducible exact ev_int
  | with_reducible exact ev_bl
  | with_reducible exact ev_str
  | with_reducible exact ev_non
  | ((with_reducible apply ev_var); rfl)
  | with_reducible exact ea_nil
  | with_reducible exact et_nil
  | with_reducible exact eo_no
  | with_reducible exact rv_addVI
  | with_reducible exact rv_subI
  | with_reducible exact rv_ltV
  | with_reducible exact rv_leV
  | with_reducible exact rv_gtV
  | with_reducible exact rv_geV
  | with_reducible exact rv_eqI
  | with_reducible exact rv_neI
  | with_reducible exact rv_isB
  | with_reducible exact rv_notB
  | ((with_reducible apply rv_modI); first | assumption | omega | skip)
  | ((with_reducible apply rv_divI); first | assumption | (constructor <;> omega) | skip)
  | with_reducible exact ru_I
  | with_reducible exact rc_abs
  | with_reducible exact rc_int
  | with_reducible exact rs_tup
  | with_reducible exact Tru.b _
  | with_reducible exact Tru.n
  | with_reducible exact DL.Seq.t _
  | with_reducible exact DL.Seq.l (Its.d _)
  | with_reducible exact Its.d _
  | with_reducible exact Sees.d _
  | ((with_reducible apply DL.Seq.l); (with_reducible apply DL.Its.p); assumption)
  | ((with_reducible apply DL.Its.p); assumption)
  | (with_reducible apply ev_op) <;> walk_at "e"
  | (with_reducible apply ev_un) <;> walk_at "e"
  | (with_reducible apply ea_cons) <;> walk_at "e"
  | (with_reducible apply ev_cb) <;> walk_at "e"
  | (with_reducible apply et_test) <;> walk_at "e"
  | (with_reducible apply et_not) <;> walk_at "e"
  | (with_reducible apply et_tr) <;> walk_at "e"
  | (with_reducible apply ev_notT) <;> walk_at "e"
  | (with_reducible apply eo_some) <;> walk_at "e"
  | ((with_reducible apply rv_ixQ) <;> first | ((with_reducible show atW _ _ = some _); rfl) | walk_at "e")
  | with_reducible exact rc_isint
  | with_reducible exact rc_isbool
  | with_reducible exact rc_isstr
  | with_reducible exact rc_istuple
  | with_reducible exact rc_islist
  | (with_reducible apply rc_len) <;> walk_at "e"
  | (with_reducible apply ev_fld) <;> walk_at "e"
  | (with_reducible apply ev_sl) <;> walk_at "e"
  
  | with_reducible exact ev_raw
  | with_reducible assumption
  | with_reducible rfl
  | skip)

def phLineOf (a : Ad) : DL.Spec := fun ws μ O => ∃ x, ws = [.d x] ∧ Nice x ∧ ((isThing x = false ∧ O (.exc (.ref a.C_InvalidArgument) μ)) ∨ (isThing x = true ∧ LineOk x ∧ O (.ret (.s (lineOf x)) μ)))
theorem ok_line_of_thing {K : PySem.W.Frag} {mg : Str → Option Value} {base : Heap} {a : Ad} (T : Txt K mg a) : FnOk Wd.P Wd.w K mg base (L2.CX Wd.P Wd.w) 5 a.f_line_of_thing a.d_line_of_thing ["thing"] (spOf K 1 (phLineOf a)) := by
  refine def_ok T.f_line_of_thing sc_line_of_thing rfl fun cdv A outer s H E hr => ?_
  have hu := hr.units
  have hu5 := room65 hr
  refine ⟨_, (pss_cons (ps_if (pt_not (pt_tr (by exact (pe_callU (ok_is_thing T) (hr.mono (by decide)) rfl T.g_is_thing T.f_is_thing.kp T.b_is_thing (takes_of rfl rfl rfl rfl) (by exact (pa_cons (pv 0) pa_nil)))))) (pss_one (ps_raiseU rfl (takes_of rfl rfl rfl rfl) PySem.F.excBase_ValueError T.x_InvalidArgument T.g_InvalidArgument T.k_InvalidArgument (raises_own T.sb_InvalidArgument T.ty_InvalidArgument) rfl)) pss_nil)
    (pss_cons (ps_if (pt_cmpR (op_eqU hu) (pe_ix (ix_U (by exact ⟨rfl, rfl⟩) hu) (pv 0) pe_int (fun _ _ => rfl)) pe_str (nomark _)) (pss_one (ps_ret (pe_op op_addV pe_str (pe_ix (ix_U (by exact ⟨rfl, rfl⟩) hu) (pv 0) pe_int (fun _ _ => rfl))))) pss_nil)
    (pss_cons (ps_setLc (i := 1) rfl sc_line_of_thing.nd rfl rfl (sw_true rfl rfl rfl (by decide +kernel)) (own := [("value", 2)]) (g := (gName 2)) (tt := tYes) (te := (tIf (tTr K (tCB (rIsi K) (tCons (tVar 2) (tCons (tC (.ty "str")) tNil)))) (tOp (rAddV K) (tC (.str "'")) (tVar 2)) (tCB rStrU (tCons (tVar 2) tNil)))) (by exact (pi_seqW (pe_ix (ix_U (by exact ⟨rfl, rfl⟩) hu) (pv 0) pe_int (fun _ _ => rfl)))) (blkOk_by (own := [("value", 2)]) (N := ["thing", "values", "value"]) (sc := defScope s_line_of_thing) (by decide +kernel)) (fun _ _ _ _ _ => by exact (pg_name (i := 2) sc_line_of_thing.nd rfl (Or.inl rfl))) (fun _ _ _ _ _ => by exact pts_nil) (fun _ _ _ _ _ => by exact (pe_ifExp (pt_tr (pe_callB call_isi rfl T.z_isinstance (by decide +kernel) (pa_cons (pv 2) (pa_cons (pe_bltn (v := .ty "str") (u := .type "str") rfl T.z_str (by decide +kernel) rfl) pa_nil)))) (pe_op op_addV pe_str (pv 2)) (pe_callTy call_strU rfl T.z_str (by decide +kernel) (pa_cons (pv 2) pa_nil)))))
    (pss_one (ps_ret (pe_op op_addV (pe_op op_addV (pe_op op_addV (pe_ix (ix_U (by exact ⟨rfl, rfl⟩) hu) (pv 0) pe_int (fun _ _ => rfl)) pe_str) (pe_bm PySem.F.plainAttrs_str PySem.F.slot_str_join PySem.F.type_str_join mt_joinU pe_str (pa_cons (pv 1) pa_nil))) pe_str)))))), ?_⟩
  try dsimp only [cxOf_K]
  rintro ws μ O ⟨x, rfl, hn, hO⟩ _ _
  change St K _ _ [some _, none, none] _ _
  have ex : ∀ {δ1 δ2 : Option W} {μ : Mu}, Ev K (tVar 0) [some (.d x), δ1, δ2] μ (.d x) μ := ev_var rfl
  refine st_seq (st_if0 (b := !isThing x) (et_not (et_tr (w := .b (isThing x)) (ev_call (n := 1) (ea_cons ex ea_nil) rfl ⟨x, rfl, hn, rfl⟩) (.b _))) (fun h => ?_) fun h => ?_)
  · rcases hO with ⟨_, hO⟩ | ⟨ht, _⟩
    · exact st_raise (.inl hO)
    · rw [ht] at h; cases h
  · refine st_next ?_
    show St _ _ _ _ _ _
    rcases hO with ⟨hf, _⟩ | ⟨ht, ok, hO⟩
    · rw [hf] at h; cases h
    have hx := isT_of ht
    cases hx with
    | fact r zs h1 h2 h3 =>
      have t0 : EvT K (tTest (tOp (rEqA K) (tOp (rIxU K) (tVar 0) (tC (V.int 0))) (tC (V.str "rule")))) [some (.d (.tuple [.str "fact", .str r, .tuple zs])), none, none] μ false μ := et_is (et_test (ev_op (e_at 0 ex rfl) ev_str (rv_eqX (.d _) (.d _) sh_fact sh_rule))) fr
      refine st_seq (st_if0 (b := false) t0 (fun h => nomatch h) fun _ => ?_)
      refine st_next ?_
      show St _ _ _ _ _ _
      refine st_seq (st_set (txt_walk (by show 2 < 3; decide) (e_at 2 ex rfl) h2 h1 (ok.fa _ _ _ rfl).2.2.2.2) ?_)
      show St _ _ _ _ _ _
      dsimp only [List.set_cons_zero, List.set_cons_succ]
      exact DL.st_ret (line_walk ex ok (ev_var rfl)) (.inl hO)
    | rule t h =>
      have t0 : EvT K (tTest (tOp (rEqA K) (tOp (rIxU K) (tVar 0) (tC (V.int 0))) (tC (V.str "rule")))) [some (.d (.tuple [.str "rule", .str t])), none, none] μ true μ := et_is (et_test (ev_op (e_at 0 ex rfl) ev_str (rv_eqX (.d _) (.d _) sh_rule sh_rule))) rr
      refine st_seq (st_if0 (b := true) t0 (fun _ => ?_) fun h => nomatch h)
      have := ok.ru _ t rfl
      have hs := sizeLine_eq
      have a1 := l_rule
      exact DL.st_ret (ev_op ev_str (e_at 1 ex rfl) (rv_addVS (by omega))) (.inl hO)
/-! ### drawn facts -/
/-- the facts that may be drawn: name, values -/
def facts0 : List (Str × List PyData × List PyData) := [("edge", nums, nums), ("near", wrds, wrds), ("has", wrds, nums)]
def rels : List Str := ["edge", "edge", "near", "has"]
def sortsOf : List (Key × W) := [(.inr "edge", .d (.list [.str "number", .str "number"])), (.inr "near", .d (.list [.str "word", .str "word"])), (.inr "has", .d (.list [.str "word", .str "number"]))]
/-- a relation with drawn values -/
def IsDrawn (r : Str) (zs : List PyData) : Prop := r ∈ rels ∧ zs.length = 2 ∧ ∀ z ∈ zs, z ∈ nums ++ wrds
theorem lk_sorts : ∀ r ∈ rels, ∃ s1 s2 : Str, lkD (mkD sortsOf) (.inr r) = some (.d (.list [.str s1, .str s2])) ∧ (s1 = "number" ∨ s1 = "word") ∧ (s2 = "number" ∨ s2 = "word") := by
  intro r hr
  have h : r = "edge" ∨ r = "near" ∨ r = "has" := by
    simp only [rels, List.mem_cons, List.not_mem_nil, or_false] at hr
    rcases hr with h | h | h | h
    · exact .inl h
    · exact .inl h
    · exact .inr (.inl h)
    · exact .inr (.inr h)
  have ne1 : ¬ (Sum.inr ("edge" : Str) : Key) = Sum.inr ("near" : Str) := by decide +kernel
  have ne2 : ¬ (Sum.inr ("edge" : Str) : Key) = Sum.inr ("has" : Str) := by decide +kernel
  have ne3 : ¬ (Sum.inr ("near" : Str) : Key) = Sum.inr ("has" : Str) := by decide +kernel
  have em : mkD sortsOf = sortsOf := by
    unfold mkD sortsOf
    simp only [List.foldl_cons, List.foldl_nil]
    simp only [puD, lkD_nil, lkD_cons, Option.isSome_none, Bool.false_eq_true, if_false, List.nil_append, List.cons_append, if_neg ne1, if_neg ne2, if_neg ne3]
  rw [em]
  unfold sortsOf
  rcases h with rfl | rfl | rfl
  · exact ⟨"number", "number", by rw [lkD_cons, if_pos rfl], .inl rfl, .inl rfl⟩
  · exact ⟨"word", "word", by rw [lkD_cons, if_neg ne1, lkD_cons, if_pos rfl], .inr rfl, .inr rfl⟩
  · exact ⟨"word", "number", by rw [lkD_cons, if_neg ne2, lkD_cons, if_neg ne3, lkD_cons, if_pos rfl], .inr rfl, .inl rfl⟩


end Mine
set_option Elab.async false
set_option linter.all false
set_option maxRecDepth 100000
set_option maxHeartbeats 4000000
namespace Mine
open PySem PySem.Spec PyProof.Rows L2 DL
variable [Wd]

local macro_rules | `(tactic| walk_at "e") => `(tactic| first
  | with_reducible exact ev_int
  | with_reducible exact ev_bl
  | with_reducible exact ev_str
  | with_reducible exact ev_non
  | ((with_reducible apply ev_var); rfl)
  | with_reducible exact ea_nil
  | with_reducible exact et_nil
  | with_reducible exact eo_no
  | with_reducible exact rv_addVI
  | with_reducible exact rv_subI
  | with_reducible exact rv_ltV
  | with_reducible exact rv_leV
  | with_reducible exact rv_gtV
  | with_reducible exact rv_geV
  | with_reducible exact rv_eqI
  | with_reducible exact rv_neI
  | with_reducible exact rv_isB
  | with_reducible exact rv_notB
  | ((with_reducible apply rv_modI); first | assumption | omega | skip)
  | ((with_reducible apply rv_divI); first | assumption | (constructor <;> omega) | skip)
  | with_reducible exact ru_I
  | with_reducible exact rc_abs
  | with_reducible exact rc_int
  | with_reducible exact rs_tup
  | with_reducible exact Tru.b _
  | with_reducible exact Tru.n
  | with_reducible exact DL.Seq.t _
  | with_reducible exact DL.Seq.l (Its.d _)
  | with_reducible exact Its.d _
  | with_reducible exact Sees.d _
  | ((with_reducible apply DL.Seq.l); (with_reducible apply DL.Its.p); assumption)
  | ((with_reducible apply DL.Its.p); assumption)
  | (with_reducible apply ev_op) <;> walk_at "e"
  | (with_reducible apply ev_un) <;> walk_at "e"
  | (with_reducible apply ea_cons) <;> walk_at "e"
  | (with_reducible apply ev_cb) <;> walk_at "e"
  | (with_reducible apply et_test) <;> walk_at "e"
  | (with_reducible apply et_not) <;> walk_at "e"
  | (with_reducible apply et_tr) <;> walk_at "e"
  | (with_reducible apply ev_notT) <;> walk_at "e"
  | (with_reducible apply eo_some) <;> walk_at "e"
  | ((with_reducible apply rv_ixQ) <;> first | ((with_reducible show atW _ _ = some _); rfl) | walk_at "e")
  | with_reducible exact rc_isint
  | with_reducible exact rc_isbool
  | with_reducible exact rc_isstr
  | with_reducible exact rc_istuple
  | with_reducible exact rc_islist
  | (with_reducible apply rc_len) <;> walk_at "e"
  | (with_reducible apply ev_fld) <;> walk_at "e"
  | (with_reducible apply ev_sl) <;> walk_at "e"
  
  | with_reducible exact ev_raw
  | with_reducible assumption
  | with_reducible rfl
  | skip)

/-- a drawn fact and the state behind, step by step -/
def fRel (ns : List Int) (k big : Int) : Str := rels.getD (takeF ns k big 4).toNat ""
def srt (r : Str) : Str × Str := if r = "edge" then ("number", "number") else if r = "near" then ("word", "word") else ("word", "number")
structure Dr where
  k : Int
  b : Int
def Dr.next (ns : List Int) (d : Dr) (lim : Int) : Dr := ⟨takeK d.k d.b, takeB ns d.k d.b lim⟩
def fSt1 (ns : List Int) (d : Dr) : Dr := d.next ns 4
def fSt2 (ns : List Int) (d : Dr) : Dr := (fSt1 ns d).next ns (dLim (srt (fRel ns d.k d.b)).1)
def fSt3 (ns : List Int) (d : Dr) : Dr := (fSt2 ns d).next ns (dLim (srt (fRel ns d.k d.b)).2)
def fV1 (ns : List Int) (d : Dr) : PyData := dV ns (fSt1 ns d).k (fSt1 ns d).b (srt (fRel ns d.k d.b)).1
def fV2 (ns : List Int) (d : Dr) : PyData := dV ns (fSt2 ns d).k (fSt2 ns d).b (srt (fRel ns d.k d.b)).2
def factOf (ns : List Int) (d : Dr) : PyData := .tuple [.str (fRel ns d.k d.b), .tuple [fV1 ns d, fV2 ns d]]
def stD (ns : List Int) (d : Dr) : Cell := stW ns d.k d.b
theorem fRel_mem (ns : List Int) (k big : Int) : fRel ns k big ∈ rels := by
  obtain ⟨r0, r1⟩ := takeF_lt (ns := ns) (k := k) (big := big) (lim := 4) (by decide)
  have hl : (takeF ns k big 4).toNat < rels.length := by show _ < 4; omega
  unfold fRel
  rw [List.getD_eq_getElem?_getD, List.getElem?_eq_getElem hl]
  exact List.getElem_mem hl
theorem srt_lk (r : Str) (h : r ∈ rels) : lkD (mkD sortsOf) (.inr r) = some (.d (.list [.str (srt r).1, .str (srt r).2])) ∧ ((srt r).1 = "number" ∨ (srt r).1 = "word") ∧ ((srt r).2 = "number" ∨ (srt r).2 = "word") := by
  have n1 : ¬ ("near" : Str) = "edge" := by decide +kernel
  have n2 : ¬ ("has" : Str) = "edge" := by decide +kernel
  have n3 : ¬ ("has" : Str) = "near" := by decide +kernel
  have ne1 : ¬ (Sum.inr ("edge" : Str) : Key) = Sum.inr ("near" : Str) := by decide +kernel
  have ne2 : ¬ (Sum.inr ("edge" : Str) : Key) = Sum.inr ("has" : Str) := by decide +kernel
  have ne3 : ¬ (Sum.inr ("near" : Str) : Key) = Sum.inr ("has" : Str) := by decide +kernel
  have em : mkD sortsOf = sortsOf := by
    unfold mkD sortsOf
    simp only [List.foldl_cons, List.foldl_nil]
    simp only [puD, lkD_nil, lkD_cons, Option.isSome_none, Bool.false_eq_true, if_false, List.nil_append, List.cons_append, if_neg ne1, if_neg ne2, if_neg ne3]
  have h : r = "edge" ∨ r = "near" ∨ r = "has" := by
    simp only [rels, List.mem_cons, List.not_mem_nil, or_false] at h
    rcases h with h | h | h | h
    · exact .inl h
    · exact .inl h
    · exact .inr (.inl h)
    · exact .inr (.inr h)
  rw [em]
  unfold sortsOf srt
  rcases h with rfl | rfl | rfl
  · rw [if_pos rfl]
    exact ⟨by rw [lkD_cons, if_pos rfl], .inl rfl, .inl rfl⟩
  · rw [if_neg n1, if_pos rfl]
    exact ⟨by rw [lkD_cons, if_neg ne1, lkD_cons, if_pos rfl], .inr rfl, .inr rfl⟩
  · rw [if_neg n2, if_neg n3]
    exact ⟨by rw [lkD_cons, if_neg ne2, lkD_cons, if_neg ne3, lkD_cons, if_pos rfl], .inr rfl, .inl rfl⟩
def phFact : DL.Spec := fun ws μ O => ∃ n ns d, ws = [.p n] ∧ μ[n]? = some (stD ns d) ∧ 0 ≤ d.k ∧ O (.ret (.d (factOf ns d)) (μ.set n (stD ns (fSt3 ns d))))
theorem set_gL {μ : Mu} {c c' : Cell} : (μ ++ [c]).set μ.length c' = μ ++ [c'] := by
  rw [List.set_append_right _ _ (Nat.le_refl _), Nat.sub_self]
  rfl
theorem set_ga {μ : Mu} {n : Nat} {c c' : Cell} (h : n < μ.length) : (μ ++ [c]).set n c' = μ.set n c' ++ [c] := List.set_append_left _ _ h
theorem clm_set {μ : Mu} {n : Nat} {ns : List Int} {d : Dr} (h : ClM μ) : ClM (μ.set n (stD ns d)) := fun c hc => by
  rw [List.length_set]
  rcases List.mem_or_eq_of_mem_set hc with hc | rfl
  · exact h c hc
  · intro x hx
    simp only [List.mem_cons, List.not_mem_nil, or_false] at hx
    rcases hx with rfl | rfl | rfl <;> trivial
theorem ok_law_fact {K : PySem.W.Frag} {mg : Str → Option Value} {base : Heap} {a : Ad} (T : Txt K mg a) : FnOk Wd.P Wd.w K mg base (L2.CX Wd.P Wd.w) 5 a.f_law_fact a.d_law_fact ["state"] (spOf K 1 phFact) := by
  refine def_ok T.f_law_fact sc_law_fact rfl fun cdv A outer s H E hr => ?_
  have hu := hr.units
  have hu5 := room65 hr
  refine ⟨_, (pss_cons (ps_set (i := 1) sc_law_fact.nd rfl (Or.inl rfl) (pe_ix (ix_U (by exact ⟨rfl, rfl⟩) hu) (pe_lst (pa_cons pe_str (pa_cons pe_str (pa_cons pe_str (pa_cons pe_str pa_nil))))) (by exact (pe_callU (ok_law_next T) (hr.mono (by decide)) rfl T.g__law_next T.f_law_next.kp T.b_law_next (takes_of rfl rfl rfl rfl) (by exact (pa_cons (pv 0) (pa_cons pe_int pa_nil))))) (fun _ _ => rfl)))
    (pss_cons (ps_set (i := 2) sc_law_fact.nd rfl (Or.inl rfl) (pe_ix (ix_U (by exact ⟨rfl, rfl⟩) hu) (pe_disp (pps_cons pe_str (pe_lst (pa_cons pe_str (pa_cons pe_str pa_nil))) (pps_cons pe_str (pe_lst (pa_cons pe_str (pa_cons pe_str pa_nil))) (pps_cons pe_str (pe_lst (pa_cons pe_str (pa_cons pe_str pa_nil))) pps_nil))) (by rfl) (by rfl) (by exact (fun h => nomatch h)) (by decide)) (pv 1) (fun _ _ => rfl)))
    (pss_one (ps_ret (pe_tup (pa_cons (pv 1) (pa_cons (pe_callTy call_tupU rfl T.z_tuple (by decide +kernel) (pa_cons (pe_lc (own := [("sort", 3)]) (g := (gName 3)) (tt := tYes) (te := (tCallS (spOf K 2 phDrawn) (WE (fun _ _ _ _ => False)) (tCons (tVar 0) (tCons (tVar 3) tNil)))) rfl sc_law_fact.nd (by exact (pi_seqW (pv 2))) (blkOk_by (own := [("sort", 3)]) (N := ["state", "name", "sorts", "sort"]) (sc := defScope s_law_fact) (by decide +kernel)) (fun _ _ _ _ _ => by exact (pg_name (i := 3) sc_law_fact.nd rfl (Or.inl rfl))) (fun _ _ _ _ _ => by exact pts_nil) (fun _ _ _ _ _ => by exact (by exact (pe_callU (ok_law_drawn_value T) (hr.mono (by decide)) rfl T.g__law_drawn_value T.f_law_drawn_value.kp T.b_law_drawn_value takes0 (by exact (pa_cons (pv 0) (pa_cons (pv 3) pa_nil))))))) pa_nil)) pa_nil))))))), ?_⟩
  try dsimp only [cxOf_K]
  rintro ws μ O ⟨n, ns, d, rfl, hm, h0, hO⟩ _ hcl
  change St K _ _ [some _, none, none, none] _ _
  have hlt : n < μ.length := gl hm
  obtain ⟨r0, r1⟩ := takeF_lt (ns := ns) (k := d.k) (big := d.b) (lim := 4) (by decide)
  have hl : (takeF ns d.k d.b 4).toNat < rels.length := by show _ < 4; omega
  have hrm := fRel_mem ns d.k d.b
  obtain ⟨lk, k1, k2⟩ := srt_lk _ hrm
  refine st_seq (st_set (w := .s (fRel ns d.k d.b)) (μ1 := μ.set n (stD ns (fSt1 ns d))) (ev_op (ev_lstD (xs := rels.map .str) (ea_cons ev_str (ea_cons ev_str (ea_cons ev_str (ea_cons ev_str ea_nil)))) rfl (by show 4 ≤ sizeLine; decide)) (ev_call (n := 2) (ea_cons (ev_var rfl) (ea_cons ev_int ea_nil)) rfl ⟨n, ns, d.k, d.b, 4, rfl, hm, h0, by decide, by decide, rfl⟩)
    (rv_ixQ (.l (.d _)) (atW_nat r0 (by
      rw [List.getElem?_map, List.getElem?_map, List.getElem?_eq_getElem hl]
      show some (W.s rels[(takeF ns d.k d.b 4).toNat]) = some (W.s (rels.getD (takeF ns d.k d.b 4).toNat ""))
      rw [List.getD_eq_getElem?_getD, List.getElem?_eq_getElem hl]; rfl)))) ?_)
  show St _ _ _ _ _ _
  dsimp only [List.set_cons_zero, List.set_cons_succ]
  have m1 : (μ.set n (stD ns (fSt1 ns d)))[n]? = some (stD ns (fSt1 ns d)) := gS hm
  generalize hμ1 : μ.set n (stD ns (fSt1 ns d)) = μ1 at m1 ⊢
  have disp := ev_disp (K := K) (δ := [some (.p n), some (.s (fRel ns d.k d.b)), none, none]) (μ := μ1) (ps := sortsOf) (ep_cons (k := .inr "edge") ev_str (ev_lstD (xs := [.str "number", .str "number"]) (ea_cons ev_str (ea_cons ev_str ea_nil)) rfl (by show 2 ≤ sizeLine; decide))
    (ep_cons (k := .inr "near") ev_str (ev_lstD (xs := [.str "word", .str "word"]) (ea_cons ev_str (ea_cons ev_str ea_nil)) rfl (by show 2 ≤ sizeLine; decide)) (ep_cons (k := .inr "has") ev_str (ev_lstD (xs := [.str "word", .str "number"]) (ea_cons ev_str (ea_cons ev_str ea_nil)) rfl (by show 2 ≤ sizeLine; decide)) ep_nil))) gL (by decide)
  rw [set_gL] at disp
  refine st_seq (st_set (ev_op disp (ev_var rfl) (rv_ixK (k := .inr (fRel ns d.k d.b)) gL lk)) ?_)
  show St _ _ _ _ _ _
  dsimp only [List.set_cons_zero, List.set_cons_succ]
  have hlt1 : n < μ1.length := by rw [← hμ1, List.length_set]; exact hlt
  have m2 : (μ1 ++ [Cell.dk (mkD sortsOf)])[n]? = some (stD ns (fSt1 ns d)) := ga m1
  have hk1 : 0 ≤ (fSt1 ns d).k := takeK_le h0
  have hk2 : 0 ≤ (fSt2 ns d).k := takeK_le hk1
  generalize hM0 : μ1 ++ [Cell.dk (mkD sortsOf)] = M0 at m2 ⊢
  have m3 : (M0.set n (stD ns (fSt2 ns d)))[n]? = some (stD ns (fSt2 ns d)) := gS m2
  have lst := ev_lcD (K := K) (δ := [some (.p n), some (.s (fRel ns d.k d.b)), some (.d (.list [.str (srt (fRel ns d.k d.b)).1, .str (srt (fRel ns d.k d.b)).2])), none]) (μ' := (M0.set n (stD ns (fSt2 ns d))).set n (stD ns (fSt3 ns d))) (te := tCallS (spOf K 2 phDrawn) (WE (fun _ _ _ _ => False)) (tCons (tVar 0) (tCons (tVar 3) tNil))) (tt := tYes) (g := gName 3) (vs := [3]) (xs := [fV1 ns d, fV2 ns d])
    (ei_wL (w := .d (.list [.str (srt (fRel ns d.k d.b)).1, .str (srt (fRel ns d.k d.b)).2])) (ev_var (i := 2) rfl) (.d [.str (srt (fRel ns d.k d.b)).1, .str (srt (fRel ns d.k d.b)).2])) mg_name (tg_name (by decide)) (by show 2 ≤ sizeLine; decide)
    (fun i μi acc => (i = 0 ∧ μi = M0 ∧ acc = []) ∨ (i = 1 ∧ μi = M0.set n (stD ns (fSt2 ns d)) ∧ acc = [.d (fV1 ns d)]) ∨ (i = 2 ∧ μi = (M0.set n (stD ns (fSt2 ns d))).set n (stD ns (fSt3 ns d)) ∧ acc = [.d (fV1 ns d), .d (fV2 ns d)])) (.inl ⟨rfl, rfl, rfl⟩) (fun i μi acc z => trivial) (fun i w μi acc hw z => by
      rcases z with ⟨rfl, rfl, rfl⟩ | ⟨rfl, rfl, rfl⟩ | ⟨rfl, _⟩
      · cases hw
        exact ⟨_, _, true, _, eg_name, et_nil, fun _ => ⟨.d (fV1 ns d), _, ev_call (n := 2) (ea_cons (ev_var rfl) (ea_cons (ev_var rfl) ea_nil)) rfl ⟨n, ns, (fSt1 ns d).k, (fSt1 ns d).b, _, rfl, k1, m2, hk1, rfl⟩, .inr (.inl ⟨rfl, rfl, rfl⟩)⟩, fun h => nomatch h⟩
      · cases hw
        exact ⟨_, _, true, _, eg_name, et_nil, fun _ => ⟨.d (fV2 ns d), _, ev_call (n := 2) (ea_cons (ev_var rfl) (ea_cons (ev_var rfl) ea_nil)) rfl ⟨n, ns, (fSt2 ns d).k, (fSt2 ns d).b, _, rfl, k2, m3, hk2, rfl⟩, .inr (.inr ⟨rfl, rfl, rfl⟩)⟩, fun h => nomatch h⟩
      · cases hw) fun μi acc z => by
      rcases z with ⟨h, _⟩ | ⟨h, _⟩ | ⟨_, rfl, rfl⟩
      · cases h
      · cases h
      · exact ⟨rfl, rfl⟩
  have eF : (M0.set n (stD ns (fSt2 ns d))).set n (stD ns (fSt3 ns d)) = μ.set n (stD ns (fSt3 ns d)) ++ [Cell.dk (mkD sortsOf)] := by
    rw [List.set_set, ← hM0, set_ga hlt1, ← hμ1, List.set_set]
  rw [eF] at lst
  exact DL.st_ret (ev_tup (xs := [.str (fRel ns d.k d.b), .tuple [fV1 ns d, fV2 ns d]]) (ea_cons (ev_var rfl) (ea_cons (ev_cb (ea_cons lst ea_nil) (rc_tup (.l (.d _)))) ea_nil)) rfl (by show 2 ≤ sizeLine; decide))
    (.inr ⟨μ.set n (stD ns (fSt3 ns d)), [_], rfl, by rw [List.length_set]; exact Nat.le_refl _, clm_set hcl, trivial, hO⟩)


end Mine
set_option Elab.async false
set_option linter.all false
set_option maxRecDepth 100000
set_option maxHeartbeats 4000000
namespace Mine
open PySem PySem.Spec PyProof.Rows L2 DL
variable [Wd]

local macro_rules | `(tactic| walk_at "e") => `(tactic| first
  | with_reducible exact ev_int
  | with_reducible exact ev_bl
  | with_reducible exact ev_str
  | with_reducible exact ev_non
  | ((with_reducible apply ev_var); rfl)
  | with_reducible exact ea_nil
  | with_reducible exact et_nil
  | with_reducible exact eo_no
  | with_reducible exact rv_addVI
  | with_reducible exact rv_subI
  | with_reducible exact rv_ltV
  | with_reducible exact rv_leV
  | with_reducible exact rv_gtV
  | with_reducible exact rv_geV
  | with_reducible exact rv_eqI
  | with_reducible exact rv_neI
  | with_reducible exact rv_isB
  | with_reducible exact rv_notB
  | ((with_reducible apply rv_modI); first | assumption | omega | skip)
  | ((with_reducible apply rv_divI); first | assumption | (constructor <;> omega) | skip)
  | with_reducible exact ru_I
  | with_reducible exact rc_abs
  | with_reducible exact rc_int
  | with_reducible exact rs_tup
  | with_reducible exact Tru.b _
  | with_reducible exact Tru.n
  | with_reducible exact DL.Seq.t _
  | with_reducible exact DL.Seq.l (Its.d _)
  | with_reducible exact Its.d _
  | with_reducible exact Sees.d _
  | ((with_reducible apply DL.Seq.l); (with_reducible apply DL.Its.p); assumption)
  | ((with_reducible apply DL.Its.p); assumption)
  | (with_reducible apply ev_op) <;> walk_at "e"
  | (with_reducible apply ev_un) <;> walk_at "e"
  | (with_reducible apply ea_cons) <;> walk_at "e"
  | (with_reducible apply ev_cb) <;> walk_at "e"
  | (with_reducible apply et_test) <;> walk_at "e"
  | (with_reducible apply et_not) <;> walk_at "e"
  | (with_reducible apply et_tr) <;> walk_at "e"
  | (with_reducible apply ev_notT) <;> walk_at "e"
  | (with_reducible apply eo_some) <;> walk_at "e"
  | ((with_reducible apply rv_ixQ) <;> first | ((with_reducible show atW _ _ = some _); rfl) | walk_at "e")
  | with_reducible exact rc_isint
  | with_reducible exact rc_isbool
  | with_reducible exact rc_isstr
  | with_reducible exact rc_istuple
  | with_reducible exact rc_islist
  | (with_reducible apply rc_len) <;> walk_at "e"
  | (with_reducible apply ev_fld) <;> walk_at "e"
  | (with_reducible apply ev_sl) <;> walk_at "e"
  
  | with_reducible exact ev_raw
  | with_reducible assumption
  | with_reducible rfl
  | skip)

/-- a shuffle, step by step: the state, what is left, what is found -/
structure Sh where
  d : Dr
  left : List PyData
  acc : List PyData
def Sh.at (ns : List Int) (s : Sh) : Nat := (takeF ns s.d.k s.d.b (s.left.length : Nat)).toNat
def Sh.step (ns : List Int) (s : Sh) : Sh := ⟨s.d.next ns (s.left.length : Nat), s.left.eraseIdx (s.at ns), s.acc ++ [s.left.getD (s.at ns) .none]⟩
def shAt (ns : List Int) (d : Dr) (xs : List PyData) : Nat → Sh
  | 0 => ⟨d, xs, []⟩
  | i + 1 => (shAt ns d xs i).step ns
theorem sh_at_lt {ns : List Int} {s : Sh} (h : 0 < s.left.length) : s.at ns < s.left.length := by
  obtain ⟨r0, r1⟩ := takeF_lt (ns := ns) (k := s.d.k) (big := s.d.b) (lim := (s.left.length : Nat)) (by omega)
  unfold Sh.at
  omega
theorem sh_left {ns : List Int} {d : Dr} {xs : List PyData} : ∀ i, i ≤ xs.length → (shAt ns d xs i).left.length + i = xs.length ∧ (shAt ns d xs i).acc.length = i ∧ ((shAt ns d xs i).left ++ (shAt ns d xs i).acc).Perm xs ∧ (0 ≤ d.k → 0 ≤ (shAt ns d xs i).d.k)
  | 0, _ => ⟨rfl, rfl, by simp [shAt], fun h => h⟩
  | i + 1, h => by
    obtain ⟨h1, h2, h3, h4⟩ := sh_left (ns := ns) (d := d) (xs := xs) i (by omega)
    have hp : 0 < (shAt ns d xs i).left.length := by omega
    have hl := sh_at_lt (ns := ns) hp
    have e : (shAt ns d xs i).left.getD ((shAt ns d xs i).at ns) .none = (shAt ns d xs i).left[(shAt ns d xs i).at ns] := by
      rw [List.getD_eq_getElem?_getD, List.getElem?_eq_getElem hl]; rfl
    refine ⟨?_, ?_, ?_, fun h => takeK_le (h4 h)⟩
    · show ((shAt ns d xs i).left.eraseIdx _).length + (i + 1) = _
      rw [List.length_eraseIdx, if_pos hl]
      omega
    · show ((shAt ns d xs i).acc ++ [_]).length = _
      rw [List.length_append, h2]; rfl
    · show (((shAt ns d xs i).left.eraseIdx _) ++ ((shAt ns d xs i).acc ++ [_])).Perm xs
      rw [e]
      refine List.Perm.trans ?_ h3
      have p1 : ((shAt ns d xs i).left[(shAt ns d xs i).at ns] :: (shAt ns d xs i).left.eraseIdx ((shAt ns d xs i).at ns)).Perm (shAt ns d xs i).left := by
        rw [List.eraseIdx_eq_take_drop_succ]
        have e2 : (shAt ns d xs i).left = (shAt ns d xs i).left.take ((shAt ns d xs i).at ns) ++ (shAt ns d xs i).left[(shAt ns d xs i).at ns] :: (shAt ns d xs i).left.drop ((shAt ns d xs i).at ns + 1) := by
          rw [List.getElem_cons_drop, List.take_append_drop]
        refine List.Perm.trans List.perm_middle.symm ?_
        rw [← e2]
      refine List.Perm.trans ?_ (List.Perm.append_right _ p1)
      rw [← List.append_assoc]
      exact List.perm_append_singleton _ _
def shEnd (ns : List Int) (d : Dr) (xs : List PyData) : Sh := shAt ns d xs xs.length
def shM (μ : Mu) (n : Nat) (ns : List Int) (s : Sh) : Mu := μ.set n (stD ns s.d) ++ [.lst (s.left.map .d)] ++ [.lst (s.acc.map .d)]
theorem seq_app {μ ys : Mu} {w : W} {ws : List W} (h : DL.Seq μ w ws) : DL.Seq (μ ++ ys) w ws := by
  cases h with
  | l h =>
    cases h with
    | d xs => exact .l (.d xs)
    | p e => exact .l (.p (ga e))
  | t xs => exact .t xs
def phShuf : DL.Spec := fun ws μ O => ∃ n ns d w xs, ws = [.p n, w] ∧ μ[n]? = some (stD ns d) ∧ 0 ≤ d.k ∧ DL.Seq μ w (xs.map .d) ∧ xs.length ≤ 1000 ∧ O (.ret (.p (μ.length + 1)) (shM μ n ns (shEnd ns d xs)))
theorem sh_next {μ : Mu} {n : Nat} {ns : List Int} {s : Sh} (hn : n < μ.length) :
    (((shM μ n ns s).set n (stD ns (s.d.next ns (s.left.length : Nat)))).set μ.length (.lst ((s.left.map W.d).eraseIdx (s.at ns)))).set (μ.length + 1) (.lst (s.acc.map W.d ++ [.d (s.left.getD (s.at ns) .none)])) = shM μ n ns (s.step ns) := by
  unfold shM
  have l1 : (μ.set n (stD ns s.d)).length = μ.length := List.length_set
  have l2 : (μ.set n (stD ns (s.d.next ns (s.left.length : Nat)))).length = μ.length := List.length_set
  rw [set_ga (μ := μ.set n (stD ns s.d) ++ [Cell.lst (s.left.map W.d)]) (n := n) (by rw [List.length_append, l1]; exact Nat.lt_succ_of_lt hn), set_ga (μ := μ.set n (stD ns s.d)) (n := n) (by rw [l1]; exact hn), List.set_set]
  rw [set_ga (μ := μ.set n (stD ns (s.d.next ns (s.left.length : Nat))) ++ [Cell.lst (s.left.map W.d)]) (n := μ.length) (by rw [List.length_append, l2]; exact Nat.lt_succ_self _)]
  have e1 : (μ.set n (stD ns (s.d.next ns (s.left.length : Nat))) ++ [Cell.lst (s.left.map W.d)]).set μ.length (.lst ((s.left.map W.d).eraseIdx (s.at ns))) = μ.set n (stD ns (s.d.next ns (s.left.length : Nat))) ++ [Cell.lst ((s.left.map W.d).eraseIdx (s.at ns))] := by
    have := set_gL (μ := μ.set n (stD ns (s.d.next ns (s.left.length : Nat)))) (c := Cell.lst (s.left.map W.d)) (c' := .lst ((s.left.map W.d).eraseIdx (s.at ns)))
    rw [l2] at this
    exact this
  rw [e1]
  have e2 := set_gL (μ := μ.set n (stD ns (s.d.next ns (s.left.length : Nat))) ++ [Cell.lst ((s.left.map W.d).eraseIdx (s.at ns))]) (c := Cell.lst (s.acc.map W.d)) (c' := .lst (s.acc.map W.d ++ [.d (s.left.getD (s.at ns) .none)]))
  rw [List.length_append, l2] at e2
  rw [show μ.length + 1 = μ.length + [Cell.lst ((s.left.map W.d).eraseIdx (s.at ns))].length from rfl, e2]
  show _ = μ.set n (stD ns (s.d.next ns (s.left.length : Nat))) ++ [.lst ((s.left.eraseIdx (s.at ns)).map W.d)] ++ [.lst ((s.acc ++ [s.left.getD (s.at ns) .none]).map W.d)]
  rw [List.map_append, PySem.map_eraseIdx]
  rfl
theorem ok_law_shuffled {K : PySem.W.Frag} {mg : Str → Option Value} {base : Heap} {a : Ad} (T : Txt K mg a) : FnOk Wd.P Wd.w K mg base (L2.CX Wd.P Wd.w) 4 a.f_law_shuffled a.d_law_shuffled ["state", "rows"] (spOf K 2 phShuf) := by
  refine def_ok T.f_law_shuffled sc_law_shuffled rfl fun cdv A outer s H E hr => ?_
  have hu := hr.units
  have hu5 := room65 hr
  refine ⟨_, (pss_cons (ps_set (i := 2) sc_law_shuffled.nd rfl (Or.inl rfl) (pe_callTy call_lstU rfl T.z_list (by decide +kernel) (pa_cons (pv 1) pa_nil)))
    (pss_cons (ps_set (i := 3) sc_law_shuffled.nd rfl (Or.inl rfl) (pe_lst pa_nil))
    (pss_cons (ps_for (passes_of rfl) rfl (pi_range1 rfl T.z_range (pa_cons (pe_callB call_lenU rfl T.z_len (by decide +kernel) (pa_cons (pv 1) pa_nil)) pa_nil)) (pg_name (i := 4) sc_law_shuffled.nd rfl (Or.inl rfl)) (pss_one (ps_expr (pe_bm PySem.F.plainAttrs_list PySem.F.slot_list_append PySem.F.type_list_append mt_append (pv 3) (pa_cons (pe_bm PySem.F.plainAttrs_list PySem.F.slot_list_pop PySem.F.type_list_pop mt_popAt (pv 2) (pa_cons (by exact (pe_callU (ok_law_next T) (hr.mono (by decide)) rfl T.g__law_next T.f_law_next.kp T.b_law_next (takes_of rfl rfl rfl rfl) (by exact (pa_cons (pv 0) (pa_cons (pe_callB call_lenU rfl T.z_len (by decide +kernel) (pa_cons (pv 2) pa_nil)) pa_nil))))) pa_nil)) pa_nil)))))
    (pss_one (ps_ret (pv 3)))))), ?_⟩
  try dsimp only [cxOf_K]
  rintro ws μ O ⟨n, ns, d, w, xs, rfl, hm, h0, hseq, hz, hO⟩ _ _
  change St K _ _ [some _, some _, none, none, none] _ _
  have hn : n < μ.length := gl hm
  have hz2 : xs.length ≤ sizeLine := Nat.le_trans hz (by decide)
  refine st_seq (st_set (ev_cb (ea_cons (ev_var rfl) ea_nil) (rc_lstP hseq)) ?_)
  show St _ _ _ _ _ _
  dsimp only [List.set_cons_zero, List.set_cons_succ]
  refine st_seq (st_set (ev_lstP ea_nil (Nat.zero_le _)) ?_)
  show St _ _ _ _ _ _
  dsimp only [List.set_cons_zero, List.set_cons_succ]
  have hl1 : (μ ++ [Cell.lst (xs.map W.d)]).length = μ.length + 1 := by rw [List.length_append]; rfl
  rw [hl1]
  have e0 : μ ++ [Cell.lst (xs.map W.d)] ++ [Cell.lst []] = shM μ n ns (shAt ns d xs 0) := by
    unfold shM
    have : μ.set n (stD ns (shAt ns d xs 0).d) = μ := set_same hm
    rw [this]
    rfl
  rw [e0]
  have hlen : Ev K (tCB (rLenU K) (tCons (tVar 1) tNil)) [some (.p n), some w, some (.p μ.length), some (.p (μ.length + 1)), none] (shM μ n ns (shAt ns d xs 0)) (.i (xs.length : Nat)) (shM μ n ns (shAt ns d xs 0)) := by
    rw [← e0]
    have := ev_cb (K := K) (δ := [some (.p n), some w, some (.p μ.length), some (.p (μ.length + 1)), none]) (ea_cons (ev_var (i := 1) rfl) ea_nil) (rc_len (K := K) (seq_app (ys := [Cell.lst []]) (seq_app (ys := [Cell.lst (xs.map W.d)]) hseq)))
    rw [List.length_map] at this
    exact this
  refine st_seq (st_for (ei_rng1 (ea_cons hlen ea_nil) (by omega) (by omega)) (fun i δi μi => ∃ κ, δi = [some (.p n), some w, some (.p μ.length), some (.p (μ.length + 1)), κ] ∧ μi = shM μ n ns (shAt ns d xs i)) ⟨_, rfl, rfl⟩ (fun _ _ _ _ => trivial) ?_ ?_)
  · rintro i wi δi μi hw ⟨κ, rfl, rfl⟩
    have hi : i < xs.length := by
      have := (List.getElem?_eq_some_iff.mp hw).1
      rw [rangeW_len] at this
      simpa using this
    obtain ⟨g1, g2, g3, g4⟩ := sh_left (ns := ns) (d := d) (xs := xs) i (by omega)
    generalize hs : shAt ns d xs i = s at g1 g2 g3 g4 ⊢
    have hstep : shAt ns d xs (i + 1) = s.step ns := by rw [← hs]; rfl
    have hp : 0 < s.left.length := by omega
    have hat := sh_at_lt (ns := ns) hp
    obtain ⟨r0, r1⟩ := takeF_lt (ns := ns) (k := s.d.k) (big := s.d.b) (lim := (s.left.length : Nat)) (by omega)
    have l1 : (μ.set n (stD ns s.d)).length = μ.length := List.length_set
    have c1 : (shM μ n ns s)[n]? = some (stD ns s.d) := ga (ga (gS hm))
    have c2 : (shM μ n ns s)[μ.length]? = some (.lst (s.left.map W.d)) := by
      have := gL (μ := μ.set n (stD ns s.d)) (c := Cell.lst (s.left.map W.d))
      rw [l1] at this
      exact ga this
    have c3 : (shM μ n ns s)[μ.length + 1]? = some (.lst (s.acc.map W.d)) := by
      have := gL (μ := μ.set n (stD ns s.d) ++ [Cell.lst (s.left.map W.d)]) (c := Cell.lst (s.acc.map W.d))
      rw [List.length_append, l1] at this
      exact this
    refine ⟨_, _, eg_name, ?_⟩
    show St _ _ _ _ _ _
    dsimp only [List.set_cons_zero, List.set_cons_succ]
    have d2 : ((shM μ n ns s).set n (stD ns (s.d.next ns (s.left.length : Nat))))[μ.length]? = some (.lst (s.left.map W.d)) := gs (Nat.ne_of_lt hn) c2
    have d3 : (((shM μ n ns s).set n (stD ns (s.d.next ns (s.left.length : Nat)))).set μ.length (.lst ((s.left.map W.d).eraseIdx (s.at ns))))[μ.length + 1]? = some (.lst (s.acc.map W.d)) := gs (Nat.ne_of_lt (Nat.lt_succ_self _)) (gs (by omega) c3)
    have hlen2 := ev_cb (K := K) (δ := [some (.p n), some w, some (.p μ.length), some (.p (μ.length + 1)), some wi]) (ea_cons (ev_var (i := 2) rfl) ea_nil) (rc_len (K := K) (.l (.p c2)))
    rw [List.length_map] at hlen2
    refine st_drop (ev_bm (tyv_cell c3) (ev_var rfl) (ea_cons (ev_bm (tyv_cell c2) (ev_var rfl) (ea_cons (ev_call (n := 2) (ea_cons (ev_var rfl) (ea_cons hlen2 ea_nil)) rfl ⟨n, ns, s.d.k, s.d.b, _, rfl, c1, g4 h0, by omega, by omega, rfl⟩) ea_nil)
      (rm_popAt (j := s.at ns) (w := .d (s.left.getD (s.at ns) .none)) d2 r0 rfl (by rw [List.getElem?_map, List.getD_eq_getElem?_getD, List.getElem?_eq_getElem hat]; rfl) (by rw [List.length_map]; omega))) ea_nil) (rm_append d3 (by rw [List.length_map]; omega))) ?_
    refine ⟨_, rfl, ?_⟩
    rw [hstep]
    exact sh_next hn
  · rintro δi μi ⟨κ, rfl, rfl⟩
    show St _ _ _ _ _ _
    rw [rangeW_len]
    refine DL.st_ret (ev_var rfl) (.inl ?_)
    exact hO


end Mine
set_option Elab.async false
set_option linter.all false
set_option maxRecDepth 100000
set_option maxHeartbeats 4000000
namespace Mine
open PySem PySem.Spec PyProof.Rows L2 DL
variable [Wd]

local macro_rules | `(tactic| walk_at "e") => `(tactic| first
  | with_reducible exact ev_int
  | with_reducible exact ev_bl
  | with_reducible exact ev_str
  | with_reducible exact ev_non
  | ((with_reducible apply ev_var); rfl)
  | with_reducible exact ea_nil
  | with_reducible exact et_nil
  | with_reducible exact eo_no
  | with_reducible exact rv_addVI
  | with_reducible exact rv_subI
  | with_reducible exact rv_ltV
  | with_reducible exact rv_leV
  | with_reducible exact rv_gtV
  | with_reducible exact rv_geV
  | with_reducible exact rv_eqI
  | with_reducible exact rv_neI
  | with_reducible exact rv_isB
  | with_reducible exact rv_notB
  | ((with_reducible apply rv_modI); first | assumption | omega | skip)
  | ((with_reducible apply rv_divI); first | assumption | (constructor <;> omega) | skip)
  | with_reducible exact ru_I
  | with_reducible exact rc_abs
  | with_reducible exact rc_int
  | with_reducible exact rs_tup
  | with_reducible exact Tru.b _
  | with_reducible exact Tru.n
  | with_reducible exact DL.Seq.t _
  | with_reducible exact DL.Seq.l (Its.d _)
  | with_reducible exact Its.d _
  | with_reducible exact Sees.d _
  | ((with_reducible apply DL.Seq.l); (with_reducible apply DL.Its.p); assumption)
  | ((with_reducible apply DL.Its.p); assumption)
  | (with_reducible apply ev_op) <;> walk_at "e"
  | (with_reducible apply ev_un) <;> walk_at "e"
  | (with_reducible apply ea_cons) <;> walk_at "e"
  | (with_reducible apply ev_cb) <;> walk_at "e"
  | (with_reducible apply et_test) <;> walk_at "e"
  | (with_reducible apply et_not) <;> walk_at "e"
  | (with_reducible apply et_tr) <;> walk_at "e"
  | (with_reducible apply ev_notT) <;> walk_at "e"
  | (with_reducible apply eo_some) <;> walk_at "e"
  | ((with_reducible apply rv_ixQ) <;> first | ((with_reducible show atW _ _ = some _); rfl) | walk_at "e")
  | with_reducible exact rc_isint
  | with_reducible exact rc_isbool
  | with_reducible exact rc_isstr
  | with_reducible exact rc_istuple
  | with_reducible exact rc_islist
  | (with_reducible apply rc_len) <;> walk_at "e"
  | (with_reducible apply ev_fld) <;> walk_at "e"
  | (with_reducible apply ev_sl) <;> walk_at "e"
  
  | with_reducible exact ev_raw
  | with_reducible assumption
  | with_reducible rfl
  | skip)

/-! ### data that is written down -/
section
variable {K : PySem.W.Frag} {δ : Dl} {μ : Mu} {te : TE} {tl : TA} {x : PyData} {xs : List PyData}
def EvD (K : PySem.W.Frag) (tl : TA) (δ : Dl) (μ : Mu) (xs : List PyData) : Prop := EvA K tl δ μ (xs.map .d) μ ∧ xs.length ≤ 8
theorem ed_nil : EvD K tNil δ μ [] := ⟨ea_nil, Nat.zero_le _⟩
theorem ed_1 {ta : TE} {a : PyData} (h : Ev K ta δ μ (.d a) μ) : EvD K (tCons ta tNil) δ μ [a] := ⟨ea_cons h ea_nil, by show 1 ≤ 8; decide⟩
theorem ed_2 {ta tb : TE} {a b : PyData} (h : Ev K ta δ μ (.d a) μ) (h2 : Ev K tb δ μ (.d b) μ) : EvD K (tCons ta (tCons tb tNil)) δ μ [a, b] := ⟨ea_cons h (ea_cons h2 ea_nil), by show 2 ≤ 8; decide⟩
theorem ed_3 {ta tb tc : TE} {a b c : PyData} (h : Ev K ta δ μ (.d a) μ) (h2 : Ev K tb δ μ (.d b) μ) (h3 : Ev K tc δ μ (.d c) μ) : EvD K (tCons ta (tCons tb (tCons tc tNil))) δ μ [a, b, c] := ⟨ea_cons h (ea_cons h2 (ea_cons h3 ea_nil)), by show 3 ≤ 8; decide⟩
theorem ed_4 {ta tb tc td : TE} {a b c d : PyData} (h : Ev K ta δ μ (.d a) μ) (h2 : Ev K tb δ μ (.d b) μ) (h3 : Ev K tc δ μ (.d c) μ) (h4 : Ev K td δ μ (.d d) μ) : EvD K (tCons ta (tCons tb (tCons tc (tCons td tNil)))) δ μ [a, b, c, d] := ⟨ea_cons h (ea_cons h2 (ea_cons h3 (ea_cons h4 ea_nil))), by show 4 ≤ 8; decide⟩
theorem ed_tup (h : EvD K tl δ μ xs) : Ev K (tTup tl) δ μ (.d (.tuple xs)) μ := ev_tup h.1 rfl (Nat.le_trans h.2 (by decide))
end
local macro_rules | `(tactic| walk_at "d") => `(tactic| first
  | with_reducible exact ev_str
  | with_reducible exact ev_int
  | with_reducible exact ev_non
  | with_reducible exact ev_bl
  | ((with_reducible apply ev_var); rfl)
  | ((with_reducible apply ed_tup); walk_at "d")
  | with_reducible exact ed_nil
  | (with_reducible apply ed_1) <;> walk_at "d"
  | (with_reducible apply ed_2) <;> walk_at "d"
  | (with_reducible apply ed_3) <;> walk_at "d"
  | (with_reducible apply ed_4) <;> walk_at "d")
abbrev vD (x : Str) : PyData := .tuple [.str "variable", .str x]
abbrev aD : PyData := vD "a"
abbrev bD : PyData := vD "b"
abbrev cD : PyData := vD "c"
abbrev wD : PyData := vD "w"
abbrev factR (r : Str) (xs : List PyData) : PyData := .tuple [.str "fact", .str r, .tuple xs]
abbrev notR (r : Str) (xs : List PyData) : PyData := .tuple [.str "not", .str r, .tuple xs]
abbrev ruleR (h : Str) (xs body : List PyData) : PyData := .tuple [.str "rule", .tuple [.str h, .tuple xs], .tuple body]
abbrev twiceD : PyData := .tuple [.str "let", .str "b", .tuple [.str "op", .str "*", aD, .tuple [.str "value", .int 2]]]
def rulesL : List (Key × W) := [
  (.inr "rule big ( a ) if edge ( a , b ) , not path ( b , a )", .d (ruleR "big" [aD] [factR "edge" [aD, bD], notR "path" [bD, aD]])),
  (.inr "rule many ( a , count ) if edge ( a , b )", .d (ruleR "many" [aD, .tuple [.str "count"]] [factR "edge" [aD, bD]])),
  (.inr "rule path ( a , b ) if edge ( a , b )", .d (ruleR "path" [aD, bD] [factR "edge" [aD, bD]])),
  (.inr "rule path ( a , c ) if path ( a , b ) , edge ( b , c )", .d (ruleR "path" [aD, cD] [factR "path" [aD, bD], factR "edge" [bD, cD]])),
  (.inr "rule path ( a , b ) if edge ( a , b ) , not big ( a )", .d (ruleR "path" [aD, bD] [factR "edge" [aD, bD], notR "big" [aD]])),
  (.inr "rule many ( a , b ) if has ( w , a ) , let b = a * 2", .d (ruleR "many" [aD, bD] [factR "has" [wD, aD], twiceD])),
  (.inr "rule big ( a ) if nothing ( a )", .d .none),
  (.inr "rule big ( a", .b false)]
theorem rules_step {K : PySem.W.Frag} {X : WX} {O : SO → Prop} {μ : Mu} {δ : Dl} {te : TE} {ks : List (Key × W)} {s : Str} {x : W} (h : Ev K te δ (μ ++ [.dk ks]) x (μ ++ [.dk ks])) (hv : δ[4]? = some (some (.p μ.length))) (hl : ks.length ≤ 100)
    (hO : O (.nx δ (μ ++ [.dk (puD ks (.inr s) x)]))) : St K X (tAsg te (gSub (tVar 4) (tC (V.str s)) (rSetU K))) δ (μ ++ [.dk ks]) O := by
  refine st_asg h (eg_subKU (k := .inr s) (ev_var hv) ev_str gL (Nat.lt_of_le_of_lt hl (by decide))) ?_
  rw [set_gL]
  exact hO
theorem pu_le {ks : List (Key × W)} {k : Key} {w : W} {n : Nat} (h : ks.length ≤ n) : (puD ks k w).length ≤ n + 1 := Nat.le_trans (puD_len ks k w) (Nat.add_le_add_right h 1)
def phRules : DL.Spec := fun ws μ O => ws = [] ∧ O (.ret (.p μ.length) (μ ++ [.dk (mkD rulesL)]))
theorem ok_law_rules {K : PySem.W.Frag} {mg : Str → Option Value} {base : Heap} {a : Ad} (T : Txt K mg a) : FnOk Wd.P Wd.w K mg base (L2.CX Wd.P Wd.w) 1 a.f_law_rules a.d_law_rules [] (spOf K 0 phRules) := by
  refine def_ok T.f_law_rules sc_law_rules rfl fun cdv A outer s H E hr => ?_
  have hu := hr.units
  have hu5 := room65 hr
  refine ⟨_, (pss_cons (ps_asg (pe_tup (pa_cons (pe_tup (pa_cons pe_str (pa_cons pe_str pa_nil))) (pa_cons (pe_tup (pa_cons pe_str (pa_cons pe_str pa_nil))) (pa_cons (pe_tup (pa_cons pe_str (pa_cons pe_str pa_nil))) (pa_cons (pe_tup (pa_cons pe_str (pa_cons pe_str pa_nil))) pa_nil))))) (pg_tup rfl (pgs_cons (pg_name (i := 0) sc_law_rules.nd rfl (Or.inl rfl)) (pgs_cons (pg_name (i := 1) sc_law_rules.nd rfl (Or.inl rfl)) (pgs_cons (pg_name (i := 2) sc_law_rules.nd rfl (Or.inl rfl)) (pgs_cons (pg_name (i := 3) sc_law_rules.nd rfl (Or.inl rfl)) pgs_nil))))))
    (pss_cons (ps_set (i := 4) sc_law_rules.nd rfl (Or.inl rfl) pe_dnewK)
    (pss_cons (ps_asg (pe_tup (pa_cons pe_str (pa_cons (pe_tup (pa_cons pe_str (pa_cons (pe_tup (pa_cons (pv 0) pa_nil)) pa_nil))) (pa_cons (pe_tup (pa_cons (pe_tup (pa_cons pe_str (pa_cons pe_str (pa_cons (pe_tup (pa_cons (pv 0) (pa_cons (pv 1) pa_nil))) pa_nil)))) (pa_cons (pe_tup (pa_cons pe_str (pa_cons pe_str (pa_cons (pe_tup (pa_cons (pv 1) (pa_cons (pv 0) pa_nil))) pa_nil)))) pa_nil))) pa_nil)))) (pg_sub (pv 4) pe_str (set_U (by exact ⟨rfl, rfl⟩) hu)))
    (pss_cons (ps_asg (pe_tup (pa_cons pe_str (pa_cons (pe_tup (pa_cons pe_str (pa_cons (pe_tup (pa_cons (pv 0) (pa_cons (pe_tup (pa_cons pe_str pa_nil)) pa_nil))) pa_nil))) (pa_cons (pe_tup (pa_cons (pe_tup (pa_cons pe_str (pa_cons pe_str (pa_cons (pe_tup (pa_cons (pv 0) (pa_cons (pv 1) pa_nil))) pa_nil)))) pa_nil)) pa_nil)))) (pg_sub (pv 4) pe_str (set_U (by exact ⟨rfl, rfl⟩) hu)))
    (pss_cons (ps_asg (pe_tup (pa_cons pe_str (pa_cons (pe_tup (pa_cons pe_str (pa_cons (pe_tup (pa_cons (pv 0) (pa_cons (pv 1) pa_nil))) pa_nil))) (pa_cons (pe_tup (pa_cons (pe_tup (pa_cons pe_str (pa_cons pe_str (pa_cons (pe_tup (pa_cons (pv 0) (pa_cons (pv 1) pa_nil))) pa_nil)))) pa_nil)) pa_nil)))) (pg_sub (pv 4) pe_str (set_U (by exact ⟨rfl, rfl⟩) hu)))
    (pss_cons (ps_asg (pe_tup (pa_cons pe_str (pa_cons (pe_tup (pa_cons pe_str (pa_cons (pe_tup (pa_cons (pv 0) (pa_cons (pv 2) pa_nil))) pa_nil))) (pa_cons (pe_tup (pa_cons (pe_tup (pa_cons pe_str (pa_cons pe_str (pa_cons (pe_tup (pa_cons (pv 0) (pa_cons (pv 1) pa_nil))) pa_nil)))) (pa_cons (pe_tup (pa_cons pe_str (pa_cons pe_str (pa_cons (pe_tup (pa_cons (pv 1) (pa_cons (pv 2) pa_nil))) pa_nil)))) pa_nil))) pa_nil)))) (pg_sub (pv 4) pe_str (set_U (by exact ⟨rfl, rfl⟩) hu)))
    (pss_cons (ps_asg (pe_tup (pa_cons pe_str (pa_cons (pe_tup (pa_cons pe_str (pa_cons (pe_tup (pa_cons (pv 0) (pa_cons (pv 1) pa_nil))) pa_nil))) (pa_cons (pe_tup (pa_cons (pe_tup (pa_cons pe_str (pa_cons pe_str (pa_cons (pe_tup (pa_cons (pv 0) (pa_cons (pv 1) pa_nil))) pa_nil)))) (pa_cons (pe_tup (pa_cons pe_str (pa_cons pe_str (pa_cons (pe_tup (pa_cons (pv 0) pa_nil)) pa_nil)))) pa_nil))) pa_nil)))) (pg_sub (pv 4) pe_str (set_U (by exact ⟨rfl, rfl⟩) hu)))
    (pss_cons (ps_set (i := 5) sc_law_rules.nd rfl (Or.inl rfl) (pe_tup (pa_cons pe_str (pa_cons pe_str (pa_cons (pe_tup (pa_cons pe_str (pa_cons pe_str (pa_cons (pv 0) (pa_cons (pe_tup (pa_cons pe_str (pa_cons pe_int pa_nil))) pa_nil))))) pa_nil)))))
    (pss_cons (ps_asg (pe_tup (pa_cons pe_str (pa_cons (pe_tup (pa_cons pe_str (pa_cons (pe_tup (pa_cons (pv 0) (pa_cons (pv 1) pa_nil))) pa_nil))) (pa_cons (pe_tup (pa_cons (pe_tup (pa_cons pe_str (pa_cons pe_str (pa_cons (pe_tup (pa_cons (pv 3) (pa_cons (pv 0) pa_nil))) pa_nil)))) (pa_cons (pv 5) pa_nil))) pa_nil)))) (pg_sub (pv 4) pe_str (set_U (by exact ⟨rfl, rfl⟩) hu)))
    (pss_cons (ps_asg pe_non (pg_sub (pv 4) pe_str (set_U (by exact ⟨rfl, rfl⟩) hu)))
    (pss_cons (ps_asg pe_bl (pg_sub (pv 4) pe_str (set_U (by exact ⟨rfl, rfl⟩) hu)))
    (pss_one (ps_ret (pv 4)))))))))))))), ?_⟩
  try dsimp only [cxOf_K]
  rintro ws μ O ⟨rfl, hO⟩ _ _
  change St K _ _ [none, none, none, none, none, none] _ _
  refine st_seq (st_asg (w := .d (.tuple [aD, bD, cD, wD])) (by walk_at "d") (eg_tup rfl (egs_cons eg_name (egs_cons eg_name (egs_cons eg_name (egs_cons eg_name egs_nil))))) ?_)
  show St _ _ _ _ _ _
  dsimp only [List.set_cons_zero, List.set_cons_succ]
  refine st_seq (st_set ev_dnewK ?_)
  show St _ _ _ _ _ _
  dsimp only [List.set_cons_zero, List.set_cons_succ]
  refine st_seq (rules_step (x := .d (ruleR "big" [aD] [factR "edge" [aD, bD], notR "path" [bD, aD]])) (by walk_at "d") rfl (by decide) ?_)
  show St _ _ _ _ _ _
  refine st_seq (rules_step (x := .d (ruleR "many" [aD, .tuple [.str "count"]] [factR "edge" [aD, bD]])) (by walk_at "d") rfl (Nat.le_trans (pu_le (n := 0) (Nat.le_refl 0)) (by decide)) ?_)
  show St _ _ _ _ _ _
  refine st_seq (rules_step (x := .d (ruleR "path" [aD, bD] [factR "edge" [aD, bD]])) (by walk_at "d") rfl (Nat.le_trans (pu_le (pu_le (Nat.le_refl 0))) (by decide)) ?_)
  show St _ _ _ _ _ _
  refine st_seq (rules_step (x := .d (ruleR "path" [aD, cD] [factR "path" [aD, bD], factR "edge" [bD, cD]])) (by walk_at "d") rfl (Nat.le_trans (pu_le (pu_le (pu_le (Nat.le_refl 0)))) (by decide)) ?_)
  show St _ _ _ _ _ _
  refine st_seq (rules_step (x := .d (ruleR "path" [aD, bD] [factR "edge" [aD, bD], notR "big" [aD]])) (by walk_at "d") rfl (Nat.le_trans (pu_le (pu_le (pu_le (pu_le (Nat.le_refl 0))))) (by decide)) ?_)
  show St _ _ _ _ _ _
  refine st_seq (st_set (w := .d twiceD) (by walk_at "d") ?_)
  show St _ _ _ _ _ _
  dsimp only [List.set_cons_zero, List.set_cons_succ]
  refine st_seq (rules_step (x := .d (ruleR "many" [aD, bD] [factR "has" [wD, aD], twiceD])) (by walk_at "d") rfl (Nat.le_trans (pu_le (pu_le (pu_le (pu_le (pu_le (Nat.le_refl 0)))))) (by decide)) ?_)
  show St _ _ _ _ _ _
  refine st_seq (rules_step (x := .d .none) (by walk_at "d") rfl (Nat.le_trans (pu_le (pu_le (pu_le (pu_le (pu_le (pu_le (Nat.le_refl 0))))))) (by decide)) ?_)
  show St _ _ _ _ _ _
  refine st_seq (rules_step (x := .b false) (by walk_at "d") rfl (Nat.le_trans (pu_le (pu_le (pu_le (pu_le (pu_le (pu_le (pu_le (Nat.le_refl 0)))))))) (by decide)) ?_)
  show St _ _ _ _ _ _
  exact DL.st_ret (ev_var rfl) (.inl hO)


end Mine
set_option Elab.async false
set_option linter.all false
set_option maxRecDepth 100000
set_option maxHeartbeats 4000000
namespace Mine
open PySem PySem.Spec PyProof.Rows L2 DL
variable [Wd]

local macro_rules | `(tactic| walk_at "e") => `(tactic| first
  | with_reducible exact ev_int
  | with_reducible exact ev_bl
  | with_reducible exact ev_str
  | with_reducible exact ev_non
  | ((with_reducible apply ev_var); rfl)
  | with_reducible exact ea_nil
  | with_reducible exact et_nil
  | with_reducible exact eo_no
  | with_reducible exact rv_addVI
  | with_reducible exact rv_subI
  | with_reducible exact rv_ltV
  | with_reducible exact rv_leV
  | with_reducible exact rv_gtV
  | with_reducible exact rv_geV
  | with_reducible exact rv_eqI
  | with_reducible exact rv_neI
  | with_reducible exact rv_isB
  | with_reducible exact rv_notB
  | ((with_reducible apply rv_modI); first | assumption | omega | skip)
  | ((with_reducible apply rv_divI); first | assumption | (constructor <;> omega) | skip)
  | with_reducible exact ru_I
  | with_reducible exact rc_abs
  | with_reducible exact rc_int
  | with_reducible exact rs_tup
  | with_reducible exact Tru.b _
  | with_reducible exact Tru.n
  | with_reducible exact DL.Seq.t _
  | with_reducible exact DL.Seq.l (Its.d _)
  | with_reducible exact Its.d _
  | with_reducible exact Sees.d _
  | ((with_reducible apply DL.Seq.l); (with_reducible apply DL.Its.p); assumption)
  | ((with_reducible apply DL.Its.p); assumption)
  | (with_reducible apply ev_op) <;> walk_at "e"
  | (with_reducible apply ev_un) <;> walk_at "e"
  | (with_reducible apply ea_cons) <;> walk_at "e"
  | (with_reducible apply ev_cb) <;> walk_at "e"
  | (with_reducible apply et_test) <;> walk_at "e"
  | (with_reducible apply et_not) <;> walk_at "e"
  | (with_reducible apply et_tr) <;> walk_at "e"
  | (with_reducible apply ev_notT) <;> walk_at "e"
  | (with_reducible apply eo_some) <;> walk_at "e"
  | ((with_reducible apply rv_ixQ) <;> first | ((with_reducible show atW _ _ = some _); rfl) | walk_at "e")
  | with_reducible exact rc_isint
  | with_reducible exact rc_isbool
  | with_reducible exact rc_isstr
  | with_reducible exact rc_istuple
  | with_reducible exact rc_islist
  | (with_reducible apply rc_len) <;> walk_at "e"
  | (with_reducible apply ev_fld) <;> walk_at "e"
  | (with_reducible apply ev_sl) <;> walk_at "e"
  
  | with_reducible exact ev_raw
  | with_reducible assumption
  | with_reducible rfl
  | skip)

def textsD : List PyData := sortD ((mkD rulesL).map fun p => kD p.1)
theorem rules_len : (mkD rulesL).length = 8 := by decide +kernel
theorem texts_len : textsD.length = 8 := by
  unfold textsD
  rw [sortD_len, List.length_map]
  exact rules_len
theorem rules_keys : ∀ p ∈ mkD rulesL, ∃ s : Str, p.1 = .inr s := by
  intro p hp
  have := mkD_mem hp
  simp only [rulesL, List.mem_cons, List.not_mem_nil, or_false] at this
  rcases this with rfl | rfl | rfl | rfl | rfl | rfl | rfl | rfl <;> exact ⟨_, rfl⟩
theorem texts_ok : SortOk ((mkD rulesL).map fun p => kD p.1) := by
  refine ⟨fun d hd d' hd' => ?_, .inr fun d hd => ?_, fun d hd => ?_⟩
  · obtain ⟨p, hp, rfl⟩ := List.mem_map.mp hd
    obtain ⟨q, hq, rfl⟩ := List.mem_map.mp hd'
    obtain ⟨s, e⟩ := rules_keys p hp
    obtain ⟨t, e'⟩ := rules_keys q hq
    rw [e, e']
    rfl
  · obtain ⟨p, hp, rfl⟩ := List.mem_map.mp hd
    obtain ⟨s, e⟩ := rules_keys p hp
    rw [e]
    exact ⟨(fun h => nomatch h), fun _ h => nomatch h⟩
  · obtain ⟨p, hp, rfl⟩ := List.mem_map.mp hd
    obtain ⟨s, e⟩ := rules_keys p hp
    rw [e]
    exact Nat.zero_le _
def four : List PyData := [factR "edge" [.str "ann", .int 1], factR "nosuch" [], factR "path" [.int 1, .int 2], factR "near" [.str "bob"]]
def tPick (ns : List Int) (d : Dr) : Int := takeF ns d.k d.b 8
def thingOf (ns : List Int) (d : Dr) : PyData :=
  let e := d.next ns 8
  if tPick ns d < 2 then .tuple [.str "rule", textsD.getD (takeF ns e.k e.b 8).toNat .none]
  else if tPick ns d = 2 then four.getD (takeF ns e.k e.b 4).toNat .none
  else .tuple [.str "fact", .str (fRel ns e.k e.b), .tuple [fV1 ns e, fV2 ns e]]
def thEnd (ns : List Int) (d : Dr) : Dr :=
  let e := d.next ns 8
  if tPick ns d < 2 then e.next ns 8 else if tPick ns d = 2 then e.next ns 4 else fSt3 ns e
def phAThing : DL.Spec := fun ws μ O => ∃ n ns d, ws = [.p n] ∧ μ[n]? = some (stD ns d) ∧ 0 ≤ d.k ∧ O (.ret (.d (thingOf ns d)) (μ.set n (stD ns (thEnd ns d))))
theorem ok_law_thing {K : PySem.W.Frag} {mg : Str → Option Value} {base : Heap} {a : Ad} (T : Txt K mg a) : FnOk Wd.P Wd.w K mg base (L2.CX Wd.P Wd.w) 6 a.f_law_thing a.d_law_thing ["state"] (spOf K 1 phAThing) := by
  refine def_ok T.f_law_thing sc_law_thing rfl fun cdv A outer s H E hr => ?_
  have hu := hr.units
  have hu5 := room65 hr
  refine ⟨_, (pss_cons (ps_set (i := 1) sc_law_thing.nd rfl (Or.inl rfl) (by exact (pe_callU (ok_law_next T) (hr.mono (by decide)) rfl T.g__law_next T.f_law_next.kp T.b_law_next (takes_of rfl rfl rfl rfl) (by exact (pa_cons (pv 0) (pa_cons pe_int pa_nil))))))
    (pss_cons (ps_set (i := 2) sc_law_thing.nd rfl (Or.inl rfl) (pe_callB (cr_sortU (by exact ⟨rfl, rfl⟩) rfl hu) rfl T.z_sorted (by decide +kernel) (pa_cons (by exact (pe_callU0 (ok_law_rules T) (hr.mono (by decide)) rfl T.g__law_rules T.f_law_rules.kp T.b_law_rules (takes_of rfl rfl rfl rfl))) pa_nil)))
    (pss_cons (ps_if (pt_cmpR (op_ltV hu) (pv 1) pe_int (nomark _)) (pss_one (ps_ret (pe_tup (pa_cons pe_str (pa_cons (pe_ix (ix_U (by exact ⟨rfl, rfl⟩) hu) (pv 2) (by exact (pe_callU (ok_law_next T) (hr.mono (by decide)) rfl T.g__law_next T.f_law_next.kp T.b_law_next (takes_of rfl rfl rfl rfl) (by exact (pa_cons (pv 0) (pa_cons (pe_callB call_lenU rfl T.z_len (by decide +kernel) (pa_cons (pv 2) pa_nil)) pa_nil))))) (fun _ _ => rfl)) pa_nil))))) pss_nil)
    (pss_cons (ps_if (pt_cmpR (op_eqU hu) (pv 1) pe_int (nomark _)) (pss_one (ps_ret (pe_ix (ix_U (by exact ⟨rfl, rfl⟩) hu) (pe_lst (pa_cons (pe_tup (pa_cons pe_str (pa_cons pe_str (pa_cons (pe_tup (pa_cons pe_str (pa_cons pe_int pa_nil))) pa_nil)))) (pa_cons (pe_tup (pa_cons pe_str (pa_cons pe_str (pa_cons (pe_tup pa_nil) pa_nil)))) (pa_cons (pe_tup (pa_cons pe_str (pa_cons pe_str (pa_cons (pe_tup (pa_cons pe_int (pa_cons pe_int pa_nil))) pa_nil)))) (pa_cons (pe_tup (pa_cons pe_str (pa_cons pe_str (pa_cons (pe_tup (pa_cons pe_str pa_nil)) pa_nil)))) pa_nil))))) (by exact (pe_callU (ok_law_next T) (hr.mono (by decide)) rfl T.g__law_next T.f_law_next.kp T.b_law_next (takes_of rfl rfl rfl rfl) (by exact (pa_cons (pv 0) (pa_cons pe_int pa_nil))))) (fun _ _ => rfl)))) pss_nil)
    (pss_one (ps_ret (pe_op op_addV (pe_tup (pa_cons pe_str pa_nil)) (by exact (pe_callU (ok_law_fact T) (hr.mono (by decide)) rfl T.g__law_fact T.f_law_fact.kp T.b_law_fact (takes_of rfl rfl rfl rfl) (by exact (pa_cons (pv 0) pa_nil))))))))))), ?_⟩
  try dsimp only [cxOf_K]
  rintro ws μ O ⟨n, ns, d, rfl, hm, h0, hO⟩ _ hcl
  change St K _ _ [some _, none, none] _ _
  have hn : n < μ.length := gl hm
  refine st_seq (st_set (w := .i (tPick ns d)) (μ1 := μ.set n (stD ns (d.next ns 8))) (ev_call (n := 2) (ea_cons (ev_var rfl) (ea_cons ev_int ea_nil)) rfl ⟨n, ns, d.k, d.b, 8, rfl, hm, h0, by decide, by decide, rfl⟩) ?_)
  show St _ _ _ _ _ _
  dsimp only [List.set_cons_zero, List.set_cons_succ]
  have m1 : (μ.set n (stD ns (d.next ns 8)))[n]? = some (stD ns (d.next ns 8)) := gS hm
  have hk1 : 0 ≤ (d.next ns 8).k := takeK_le h0
  have hs : ∀ c, (μ.set n (stD ns (d.next ns 8))).set n c = μ.set n c := fun c => List.set_set ..
  have hl1 : (μ.set n (stD ns (d.next ns 8))).length = μ.length := List.length_set
  generalize μ.set n (stD ns (d.next ns 8)) = μ1 at m1 hs hl1 ⊢
  have rl : Ev K (tCallS (spOf K 0 phRules) (WE fun cls d _ H => E cls d H) tNil) [some (.p n), some (.i (tPick ns d)), none] μ1 (.p μ1.length) (μ1 ++ [.dk (mkD rulesL)]) := ev_call (n := 0) ea_nil rfl ⟨rfl, rfl⟩
  refine st_seq (st_set (ev_cb (ea_cons rl ea_nil) (rc_sortK gL texts_ok)) ?_)
  show St _ _ _ _ _ _
  dsimp only [List.set_cons_zero, List.set_cons_succ]
  have hlt1 : n < μ1.length := gl m1
  have m2 : (μ1 ++ [Cell.dk (mkD rulesL)])[n]? = some (stD ns (d.next ns 8)) := ga m1
  have fin : ∀ e : Dr, (μ1 ++ [Cell.dk (mkD rulesL)]).set n (stD ns e) = μ.set n (stD ns e) ++ [Cell.dk (mkD rulesL)] := fun e => by rw [set_ga hlt1, hs]
  have hlen : Ev K (tCB (rLenU K) (tCons (tVar 2) tNil)) [some (.p n), some (.i (tPick ns d)), some (.d (.list textsD))] (μ1 ++ [Cell.dk (mkD rulesL)]) (.i 8) (μ1 ++ [Cell.dk (mkD rulesL)]) := by
    have := ev_cb (K := K) (δ := [some (.p n), some (.i (tPick ns d)), some (.d (.list textsD))]) (μ := μ1 ++ [Cell.dk (mkD rulesL)]) (ea_cons (ev_var (i := 2) rfl) ea_nil) (rc_len (K := K) (.l (.d textsD)))
    rw [List.length_map, texts_len] at this
    exact this
  refine st_seq (st_if0 (b := decide (tPick ns d < 2)) (et_test (ev_op (ev_var rfl) ev_int rv_ltV)) (fun h => ?_) fun h => ?_)
  · have h2 := of_decide_eq_true h
    obtain ⟨r0, r1⟩ := takeF_lt (ns := ns) (k := (d.next ns 8).k) (big := (d.next ns 8).b) (lim := 8) (by decide)
    have hl : (takeF ns (d.next ns 8).k (d.next ns 8).b 8).toNat < textsD.length := by rw [texts_len]; omega
    have e1 : thingOf ns d = .tuple [.str "rule", textsD.getD (takeF ns (d.next ns 8).k (d.next ns 8).b 8).toNat .none] := if_pos h2
    have e2 : thEnd ns d = (d.next ns 8).next ns 8 := if_pos h2
    rw [e1, e2] at hO
    refine DL.st_ret (ev_tup (xs := [.str "rule", textsD.getD (takeF ns (d.next ns 8).k (d.next ns 8).b 8).toNat .none]) (ea_cons ev_str (ea_cons (ev_op (ev_var rfl) (ev_call (n := 2) (ea_cons (ev_var rfl) (ea_cons hlen ea_nil)) rfl ⟨n, ns, (d.next ns 8).k, (d.next ns 8).b, 8, rfl, m2, hk1, by decide, by decide, rfl⟩)
      (rv_ixQ (z := .d (textsD.getD (takeF ns (d.next ns 8).k (d.next ns 8).b 8).toNat .none)) (.l (.d textsD)) (atW_nat r0 (by
        rw [List.getElem?_map, List.getElem?_eq_getElem hl, List.getD_eq_getElem?_getD, List.getElem?_eq_getElem hl]; rfl)))) ea_nil)) rfl (by show 2 ≤ sizeLine; decide))
      (.inr ⟨μ.set n (stD ns ((d.next ns 8).next ns 8)), [Cell.dk (mkD rulesL)], fin ((d.next ns 8).next ns 8), by rw [List.length_set]; exact Nat.le_refl _, clm_set hcl, trivial, hO⟩)
  · have h2 : ¬ tPick ns d < 2 := of_decide_eq_false h
    refine st_next ?_
    show St _ _ _ _ _ _
    refine st_seq (st_if0 (b := decide (tPick ns d = 2)) (et_test (ev_op (ev_var rfl) ev_int rv_eqI)) (fun h => ?_) fun h => ?_)
    · have h3 := of_decide_eq_true h
      obtain ⟨r0, r1⟩ := takeF_lt (ns := ns) (k := (d.next ns 8).k) (big := (d.next ns 8).b) (lim := 4) (by decide)
      have hl : (takeF ns (d.next ns 8).k (d.next ns 8).b 4).toNat < four.length := by show _ < 4; omega
      have e1 : thingOf ns d = four.getD (takeF ns (d.next ns 8).k (d.next ns 8).b 4).toNat .none := (if_neg h2).trans (if_pos h3)
      have e2 : thEnd ns d = (d.next ns 8).next ns 4 := (if_neg h2).trans (if_pos h3)
      rw [e1, e2] at hO
      refine DL.st_ret (ev_op (ev_lstD (xs := four) (ed_4 (ed_tup (ed_3 ev_str ev_str (ed_tup (ed_2 ev_str ev_int)))) (ed_tup (ed_3 ev_str ev_str (ed_tup ed_nil))) (ed_tup (ed_3 ev_str ev_str (ed_tup (ed_2 ev_int ev_int)))) (ed_tup (ed_3 ev_str ev_str (ed_tup (ed_1 ev_str))))).1 rfl (by show 4 ≤ sizeLine; decide))
        (ev_call (n := 2) (ea_cons (ev_var rfl) (ea_cons ev_int ea_nil)) rfl ⟨n, ns, (d.next ns 8).k, (d.next ns 8).b, 4, rfl, m2, hk1, by decide, by decide, rfl⟩)
        (rv_ixQ (z := .d (four.getD (takeF ns (d.next ns 8).k (d.next ns 8).b 4).toNat .none)) (.l (.d four)) (atW_nat r0 (by
          rw [List.getElem?_map, List.getElem?_eq_getElem hl, List.getD_eq_getElem?_getD, List.getElem?_eq_getElem hl]; rfl))))
        (.inr ⟨μ.set n (stD ns ((d.next ns 8).next ns 4)), [Cell.dk (mkD rulesL)], fin ((d.next ns 8).next ns 4), by rw [List.length_set]; exact Nat.le_refl _, clm_set hcl, trivial, hO⟩)
    · have h3 : ¬ tPick ns d = 2 := of_decide_eq_false h
      refine st_next ?_
      show St _ _ _ _ _ _
      have e1 : thingOf ns d = .tuple ([.str "fact"] ++ [.str (fRel ns (d.next ns 8).k (d.next ns 8).b), .tuple [fV1 ns (d.next ns 8), fV2 ns (d.next ns 8)]]) := (if_neg h2).trans (if_neg h3)
      have e2 : thEnd ns d = fSt3 ns (d.next ns 8) := (if_neg h2).trans (if_neg h3)
      rw [e1, e2] at hO
      exact DL.st_ret (ev_op (ev_tup (xs := [.str "fact"]) (ea_cons ev_str ea_nil) rfl (by show 1 ≤ sizeLine; decide)) (ev_call (n := 1) (ea_cons (ev_var rfl) ea_nil) rfl ⟨n, ns, d.next ns 8, rfl, m2, hk1, rfl⟩)
        (rv_addVT (by show 3 ≤ sizeLine; decide)))
        (.inr ⟨μ.set n (stD ns (fSt3 ns (d.next ns 8))), [Cell.dk (mkD rulesL)], fin (fSt3 ns (d.next ns 8)), by rw [List.length_set]; exact Nat.le_refl _, clm_set hcl, trivial, hO⟩)


end Mine
set_option Elab.async false
set_option linter.all false
set_option maxRecDepth 100000
set_option maxHeartbeats 4000000
namespace Mine
open PySem PySem.Spec PyProof.Rows L2 DL
variable [Wd]

local macro_rules | `(tactic| walk_at "e") => `(tactic| first
  | with_reducible exact ev_int
  | with_reducible exact ev_bl
  | with_reducible exact ev_str
  | with_reducible exact ev_non
  | ((with_reducible apply ev_var); rfl)
  | with_reducible exact ea_nil
  | with_reducible exact et_nil
  | with_reducible exact eo_no
  | with_reducible exact rv_addVI
  | with_reducible exact rv_subI
  | with_reducible exact rv_ltV
  | with_reducible exact rv_leV
  | with_reducible exact rv_gtV
  | with_reducible exact rv_geV
  | with_reducible exact rv_eqI
  | with_reducible exact rv_neI
  | with_reducible exact rv_isB
  | with_reducible exact rv_notB
  | ((with_reducible apply rv_modI); first | assumption | omega | skip)
  | ((with_reducible apply rv_divI); first | assumption | (constructor <;> omega) | skip)
  | with_reducible exact ru_I
  | with_reducible exact rc_abs
  | with_reducible exact rc_int
  | with_reducible exact rs_tup
  | with_reducible exact Tru.b _
  | with_reducible exact Tru.n
  | with_reducible exact DL.Seq.t _
  | with_reducible exact DL.Seq.l (Its.d _)
  | with_reducible exact Its.d _
  | with_reducible exact Sees.d _
  | ((with_reducible apply DL.Seq.l); (with_reducible apply DL.Its.p); assumption)
  | ((with_reducible apply DL.Its.p); assumption)
  | (with_reducible apply ev_op) <;> walk_at "e"
  | (with_reducible apply ev_un) <;> walk_at "e"
  | (with_reducible apply ea_cons) <;> walk_at "e"
  | (with_reducible apply ev_cb) <;> walk_at "e"
  | (with_reducible apply et_test) <;> walk_at "e"
  | (with_reducible apply et_not) <;> walk_at "e"
  | (with_reducible apply et_tr) <;> walk_at "e"
  | (with_reducible apply ev_notT) <;> walk_at "e"
  | (with_reducible apply eo_some) <;> walk_at "e"
  | ((with_reducible apply rv_ixQ) <;> first | ((with_reducible show atW _ _ = some _); rfl) | walk_at "e")
  | with_reducible exact rc_isint
  | with_reducible exact rc_isbool
  | with_reducible exact rc_isstr
  | with_reducible exact rc_istuple
  | with_reducible exact rc_islist
  | (with_reducible apply rc_len) <;> walk_at "e"
  | (with_reducible apply ev_fld) <;> walk_at "e"
  | (with_reducible apply ev_sl) <;> walk_at "e"
  
  | with_reducible exact ev_raw
  | with_reducible assumption
  | with_reducible rfl
  | skip)

theorem range_get {n i : Nat} {w : W} (h : (rangeW 0 n)[i]? = some w) : i < n ∧ w = .i (i : Nat) := by
  have hl : i < n := by
    have := (List.getElem?_eq_some_iff.mp h).1
    rwa [rangeW_len] at this
  refine ⟨hl, ?_⟩
  unfold rangeW at h
  rw [List.getElem?_map, List.getElem?_range hl] at h
  cases h
  simp
/-! ### what is nice, by reckoning -/
def niceVB (z : PyData) : Bool := match z with
  | .str s => decide (s.length ≤ 1000)
  | _ => true
theorem niceV_of {z : PyData} (h : niceVB z = true) : NiceV z := ⟨fun s e => by subst e; exact of_decide_eq_true h⟩
def niceIn (y : PyData) : Bool := match y with
  | .tuple zs => decide (zs.length ≤ 1000) && zs.all niceVB
  | _ => true
def niceB (x : PyData) : Bool := match x with
  | .tuple xs => decide (xs.length ≤ 1000) && xs.all fun y => SeqAt.shaped y && niceVB y && niceIn y
  | _ => true
theorem nice_of {x : PyData} (h : niceB x = true) : Nice x := ⟨fun xs e => by
  subst e
  have h : (decide (xs.length ≤ 1000) && xs.all fun y => SeqAt.shaped y && niceVB y && niceIn y) = true := h
  rw [Bool.and_eq_true] at h
  refine ⟨of_decide_eq_true h.1, fun y hy => ?_⟩
  have h2 := List.all_eq_true.mp h.2 y hy
  rw [Bool.and_eq_true, Bool.and_eq_true] at h2
  refine ⟨h2.1.1, niceV_of h2.1.2, fun zs e => ?_⟩
  subst e
  have h3 : (decide (zs.length ≤ 1000) && zs.all niceVB) = true := h2.2
  rw [Bool.and_eq_true] at h3
  exact ⟨of_decide_eq_true h3.1, fun z hz => niceV_of (List.all_eq_true.mp h3.2 z hz)⟩⟩
def phRaised : DL.Spec := fun ws μ O => ws = [] ∧ O (.ret (.b true) μ)
theorem ok_law_raised {K : PySem.W.Frag} {mg : Str → Option Value} {base : Heap} {a : Ad} (T : Txt K mg a) : FnOk Wd.P Wd.w K mg base (L2.CX Wd.P Wd.w) 6 a.f_law_raised a.d_law_raised [] (spOf K 0 phRaised) := by
  refine def_ok T.f_law_raised sc_law_raised rfl fun cdv A outer s H E hr => ?_
  have hu := hr.units
  have hu5 := room65 hr
  refine ⟨_, (pss_cons (ps_set (i := 0) sc_law_raised.nd rfl (Or.inl rfl) pe_int)
    (pss_cons (ps_for (passes_of rfl) rfl (pi_range1 rfl T.z_range (pa_cons pe_int pa_nil)) (pg_name (i := 1) sc_law_raised.nd rfl (Or.inl rfl)) (pss_one (ps_tryU (tb := fun W' => (tIfS (tTest (tOp (rEqA K) (tVar 1) (tC (.int 0)))) (tDrop (tCallS (spOf K 1 (phInOrder a)) (WE W') (tCons (tLst (tCons (tTup (tCons (tC (.str "fact")) (tCons (tC (.str "edge")) tNil))) tNil)) tNil))) (tIfS (tTest (tOp (rEqA K) (tVar 1) (tC (.int 1)))) (tDrop (tCallS (spOf K 2 (phMkFact a)) (WE W') (tCons (tC (.str "Edge")) (tCons (tTup (tCons (tC (.int 1)) tNil)) tNil)))) (tIfS (tTest (tOp (rEqA K) (tVar 1) (tC (.int 2)))) (tDrop (tCallS (spOf K 1 (phMkRule a)) (WE W') (tCons (tC (.str "")) tNil))) (tIfS (tTest (tOp (rEqA K) (tVar 1) (tC (.int 3)))) (tDrop (tCallS (spOf K 1 (phLineOf a)) (WE W') (tCons (tTup (tCons (tC (.str "rule")) (tCons (tC (.int 5)) tNil))) tNil))) (tDrop (tCallS (spOf K 2 (phMkFact a)) (WE W') (tCons (tC (.str "edge")) (tCons (tTup (tCons (tC (.bl true)) tNil)) tNil))))))))) (ts := fun _ _ _ => (tAsg (tOp (rAddV K) (tVar 0) (tC (.int 1))) (gName 0))) (x := "InvalidArgument") rfl rfl ⟨rfl, by decide, Or.inl T.g_InvalidArgument⟩ (takes_of rfl rfl rfl rfl) (fun W' pn xe tk po => by exact (pss_one (ps_if (pt_cmpR (op_eqU hu) (pv 1) pe_int (nomark _)) (pss_one (ps_expr (by exact (pe_callU (ok_in_order T) (hr.mono (by decide)) rfl T.g_in_order T.f_in_order.kp T.b_in_order tk (by exact (pa_cons (pe_lst (pa_cons (pe_tup (pa_cons pe_str (pa_cons pe_str pa_nil))) pa_nil)) pa_nil)))))) (pss_one (ps_if (pt_cmpR (op_eqU hu) (pv 1) pe_int (nomark _)) (pss_one (ps_expr (by exact (pe_callU (ok_fact_thing T) (hr.mono (by decide)) rfl T.g_fact_thing T.f_fact_thing.kp T.b_fact_thing tk (by exact (pa_cons pe_str (pa_cons (pe_tup (pa_cons pe_int pa_nil)) pa_nil))))))) (pss_one (ps_if (pt_cmpR (op_eqU hu) (pv 1) pe_int (nomark _)) (pss_one (ps_expr (by exact (pe_callU (ok_rule_thing T) (hr.mono (by decide)) rfl T.g_rule_thing T.f_rule_thing.kp T.b_rule_thing tk (by exact (pa_cons pe_str pa_nil)))))) (pss_one (ps_if (pt_cmpR (op_eqU hu) (pv 1) pe_int (nomark _)) (pss_one (ps_expr (by exact (pe_callU (ok_line_of_thing T) (hr.mono (by decide)) rfl T.g_line_of_thing T.f_line_of_thing.kp T.b_line_of_thing tk (by exact (pa_cons (pe_tup (pa_cons pe_str (pa_cons pe_int pa_nil))) pa_nil)))))) (pss_one (ps_expr (by exact (pe_callU (ok_fact_thing T) (hr.mono (by decide)) rfl T.g_fact_thing T.f_fact_thing.kp T.b_fact_thing tk (by exact (pa_cons pe_str (pa_cons (pe_tup (pa_cons pe_bl pa_nil)) pa_nil)))))))))))))))) (fun a oe cls d pn _ _ => by exact (pss_one (ps_set (i := 0) sc_law_raised.nd rfl (Or.inl rfl) (pe_op op_addV (pv 0) pe_int)))))))
    (pss_one (ps_ret (pe_cmpR (op_eqU hu) (pv 0) pe_int (nomark _)))))), ?_⟩
  try dsimp only [cxOf_K]
  rintro ws μ O ⟨rfl, hO⟩ _ hcl
  change St K _ _ [none, none] _ _
  refine st_seq (st_set (w := .i 0) (μ1 := μ) ev_int ?_)
  show St _ _ _ _ _ _
  dsimp only [List.set_cons_zero, List.set_cons_succ]
  refine st_seq (st_for (ei_rng1 (ea_cons ev_int ea_nil) (by decide) (by decide)) (fun i δ μi => ∃ x, δ = [some (.i (i : Nat)), x] ∧ μi = μ) ⟨none, rfl, rfl⟩ (fun _ _ _ _ => trivial) ?_ ?_)
  · rintro i w δi μi hw ⟨x, rfl, hμ⟩
    obtain ⟨hi, rfl⟩ := range_get hw
    refine ⟨_, _, eg_name, ?_⟩
    dsimp only [List.set_cons_zero, List.set_cons_succ]
    refine st_try fun X' => ?_
    have fin : TryO K (fun cls d _ H => E cls d H) (.ref a.C_InvalidArgument) (fun _ _ _ => tAsg (tOp (rAddV K) (tVar 0) (tC (.int 1))) (gName 0)) (Lp (fun δ μi => ∃ x, δ = [some (.i ((i + 1 : Nat) : Int)), x] ∧ μi = μ) (Sq K (fun cls d _ H => E cls d H) (tRet (tOp (rEqA K) (tVar 0) (tC (.int 5)))) (DL.Fin μ.length O)))
        (.exc (.ref a.C_InvalidArgument) [some (.i (i : Nat)), some (.i (i : Nat))] μi) := by
      refine ⟨true, T.e_InvalidArgument_InvalidArgument, fun _ _ => ?_, fun q => nomatch q⟩
      refine st_set (ev_op (ev_var rfl) ev_int rv_addVI) ?_
      exact ⟨_, rfl, hμ⟩
    have hcase : i = 0 ∨ i = 1 ∨ i = 2 ∨ i = 3 ∨ i = 4 := by
      have : i < 5 := hi
      omega
    rcases hcase with rfl | rfl | rfl | rfl | rfl
    · refine st_ifT (et_is (et_test (ev_op (ev_var rfl) ev_int rv_eqI)) rfl) ?_
      refine st_dropX (evx_call (ea_cons (ev_lstD (xs := [.tuple [.str "fact", .str "edge"]]) (ea_cons (ed_tup (ed_2 ev_str ev_str)) ea_nil) rfl (by show 1 ≤ sizeLine; decide)) ea_nil) rfl ⟨_, [.tuple [.str "fact", .str "edge"]], rfl, .l (.d _), by decide, fun y hy => ?_, .inl ⟨⟨_, List.mem_cons_self, by decide +kernel⟩, rfl⟩⟩) fin
      rw [List.mem_singleton] at hy
      subst hy
      exact nice_of (by decide +kernel)
    · refine st_ifF (et_is (et_test (ev_op (ev_var rfl) ev_int rv_eqI)) rfl) (st_ifT (et_is (et_test (ev_op (ev_var rfl) ev_int rv_eqI)) rfl) ?_)
      exact st_dropX (evx_call (ea_cons ev_str (ea_cons (ed_tup (ed_1 ev_int)) ea_nil)) rfl ⟨.str "Edge", _, [.int 1], rfl, .inr rfl, nice_of (by decide +kernel), by decide, .inl ⟨by decide +kernel, rfl⟩⟩) fin
    · refine st_ifF (et_is (et_test (ev_op (ev_var rfl) ev_int rv_eqI)) rfl) (st_ifF (et_is (et_test (ev_op (ev_var rfl) ev_int rv_eqI)) rfl) (st_ifT (et_is (et_test (ev_op (ev_var rfl) ev_int rv_eqI)) rfl) ?_))
      exact st_dropX (evx_call (ea_cons ev_str ea_nil) rfl ⟨.str "", rfl, fun s e => by cases e; decide, .inl ⟨by decide +kernel, rfl⟩⟩) fin
    · refine st_ifF (et_is (et_test (ev_op (ev_var rfl) ev_int rv_eqI)) rfl) (st_ifF (et_is (et_test (ev_op (ev_var rfl) ev_int rv_eqI)) rfl) (st_ifF (et_is (et_test (ev_op (ev_var rfl) ev_int rv_eqI)) rfl) (st_ifT (et_is (et_test (ev_op (ev_var rfl) ev_int rv_eqI)) rfl) ?_)))
      exact st_dropX (evx_call (ea_cons (ed_tup (ed_2 ev_str ev_int)) ea_nil) rfl ⟨.tuple [.str "rule", .int 5], rfl, nice_of (by decide +kernel), .inl ⟨by decide +kernel, rfl⟩⟩) fin
    · refine st_ifF (et_is (et_test (ev_op (ev_var rfl) ev_int rv_eqI)) rfl) (st_ifF (et_is (et_test (ev_op (ev_var rfl) ev_int rv_eqI)) rfl) (st_ifF (et_is (et_test (ev_op (ev_var rfl) ev_int rv_eqI)) rfl) (st_ifF (et_is (et_test (ev_op (ev_var rfl) ev_int rv_eqI)) rfl) ?_)))
      exact st_dropX (evx_call (ea_cons ev_str (ea_cons (ed_tup (ed_1 ev_bl)) ea_nil)) rfl ⟨.str "edge", _, [.bool true], rfl, .inr rfl, nice_of (by decide +kernel), by decide, .inl ⟨by decide +kernel, rfl⟩⟩) fin
  · rintro δi μi ⟨x, rfl, rfl⟩
    show St _ _ _ _ _ _
    refine st_ret (w := .b true) (μ1 := μi) (ev_is (ev_op (ev_var rfl) ev_int rv_eqI) ?_) (.inl hO)
    rw [rangeW_len]
    rfl
end Mine


set_option Elab.async false
set_option linter.all false
set_option maxRecDepth 100000
set_option maxHeartbeats 4000000
namespace Mine
open PySem PySem.Spec PyProof.Rows L2 DL
variable [Wd]

/-! ### the plain law of things in order -/
theorem eq_of_pw {α : Type} {le : α → α → Bool} : ∀ {l m : List α}, l.Pairwise (fun a b => le a b = true) → m.Pairwise (fun a b => le a b = true) → l.Perm m →
    (∀ a ∈ l, ∀ b ∈ l, le a b = true → le b a = true → a = b) → l = m
  | [], m, _, _, p, _ => (List.nil_perm.mp p).symm
  | a :: l, [], _, _, p, _ => by cases List.perm_nil.mp p
  | a :: l, b :: m, h1, h2, p, an => by
    rw [List.pairwise_cons] at h1 h2
    have hb : b ∈ a :: l := p.mem_iff.mpr List.mem_cons_self
    have ha : a ∈ b :: m := p.mem_iff.mp List.mem_cons_self
    have e : a = b := by
      rcases List.mem_cons.mp hb with hb' | hb'
      · exact hb'.symm
      · rcases List.mem_cons.mp ha with ha' | ha'
        · exact ha'
        · exact an a List.mem_cons_self b hb (h1.1 b hb') (h2.1 a ha')
    subst e
    rw [eq_of_pw h1.2 h2.2 (List.Perm.cons_inv p) fun x hx y hy => an x (List.mem_cons_of_mem _ hx) y (List.mem_cons_of_mem _ hy)]
theorem le_total : PySem.W.TotalLe (fun p q : NK × W => PySem.W.dataLe false id p.1.data q.1.data) :=
  PySem.W.sortLe_total (PyProof.Rows.listOrd PyProof.Rows.itemOrd) false fun p : NK × W => PySem.W.keyToks p.1.data
theorem le_anti {a b : NK × W} (h1 : PySem.W.dataLe false id a.1.data b.1.data = true) (h2 : PySem.W.dataLe false id b.1.data a.1.data = true) : PySem.W.keyToks a.1.data = PySem.W.keyToks b.1.data := by
  have g1 : (!(PyProof.Rows.listOrd PyProof.Rows.itemOrd).blt (PySem.W.keyToks b.1.data) (PySem.W.keyToks a.1.data)) = true := h1
  have g2 : (!(PyProof.Rows.listOrd PyProof.Rows.itemOrd).blt (PySem.W.keyToks a.1.data) (PySem.W.keyToks b.1.data)) = true := h2
  rw [Bool.not_eq_true'] at g1 g2
  exact (PyProof.Rows.listOrd PyProof.Rows.itemOrd).total _ _ g2 g1
theorem sortP_eq {ks ls : List (NK × W)} (p : ks.Perm ls) (inj : ∀ a ∈ ks, ∀ b ∈ ks, PySem.W.keyToks a.1.data = PySem.W.keyToks b.1.data → a = b) : sortP ks = sortP ls :=
  eq_of_pw (PySem.W.sort_pairwise le_total ks) (PySem.W.sort_pairwise le_total ls) ((List.mergeSort_perm ks _).trans (p.trans (List.mergeSort_perm ls _).symm))
    fun a ha b hb h1 h2 => inj a (sortP_mem.mp ha) b (sortP_mem.mp hb) (le_anti h1 h2)
/-! keys tell things apart -/
theorem str_toks {s t : Str} (h : s.cps.toList = t.cps.toList) : s = t := by
  cases s; cases t
  congr 1
  exact Array.toList_inj.mp h
theorem ord1_toks {z u : PyData} (hz : isValue z = true) (hu : isValue u = true) {l m : List (Int ⊕ List Nat)} (h : PySem.W.keyToks (ord1 z) ++ l = PySem.W.keyToks (ord1 u) ++ m) : z = u ∧ l = m := by
  cases z with
  | int i =>
    cases u with
    | int j =>
      have h : (Sum.inl 1 :: Sum.inl 0 :: Sum.inl 1 :: Sum.inl i :: Sum.inl 1 :: Sum.inr [] :: Sum.inl 0 :: l : List (Int ⊕ List Nat)) = Sum.inl 1 :: Sum.inl 0 :: Sum.inl 1 :: Sum.inl j :: Sum.inl 1 :: Sum.inr [] :: Sum.inl 0 :: m := h
      simp only [List.cons.injEq, true_and] at h
      obtain ⟨h1, h2⟩ := h
      exact ⟨by rw [Sum.inl.inj h1], h2⟩
    | str t =>
      have h : (Sum.inl 1 :: Sum.inl 0 :: Sum.inl 1 :: Sum.inl i :: Sum.inl 1 :: Sum.inr [] :: Sum.inl 0 :: l : List (Int ⊕ List Nat)) = Sum.inl 1 :: Sum.inl 1 :: Sum.inl 1 :: Sum.inl 0 :: Sum.inl 1 :: Sum.inr t.cps.toList :: Sum.inl 0 :: m := h
      exfalso
      simp at h
    | _ => cases hu
  | str s =>
    cases u with
    | int j =>
      have h : (Sum.inl 1 :: Sum.inl 1 :: Sum.inl 1 :: Sum.inl 0 :: Sum.inl 1 :: Sum.inr s.cps.toList :: Sum.inl 0 :: l : List (Int ⊕ List Nat)) = Sum.inl 1 :: Sum.inl 0 :: Sum.inl 1 :: Sum.inl j :: Sum.inl 1 :: Sum.inr [] :: Sum.inl 0 :: m := h
      exfalso
      simp at h
    | str t =>
      have h : (Sum.inl 1 :: Sum.inl 1 :: Sum.inl 1 :: Sum.inl 0 :: Sum.inl 1 :: Sum.inr s.cps.toList :: Sum.inl 0 :: l : List (Int ⊕ List Nat)) = Sum.inl 1 :: Sum.inl 1 :: Sum.inl 1 :: Sum.inl 0 :: Sum.inl 1 :: Sum.inr t.cps.toList :: Sum.inl 0 :: m := h
      simp only [List.cons.injEq, true_and] at h
      obtain ⟨h1, h2⟩ := h
      exact ⟨by rw [str_toks (Sum.inr.inj h1)], h2⟩
    | _ => cases hu
  | _ => cases hz
theorem ords_toks : ∀ {zs us : List PyData}, (∀ z ∈ zs, isValue z = true) → (∀ z ∈ us, isValue z = true) → ∀ {l m : List (Int ⊕ List Nat)}, PySem.W.keyToksAll (zs.map ord1) ++ l = PySem.W.keyToksAll (us.map ord1) ++ m → zs = us ∧ l = m
  | [], [], _, _, l, m, h => by
    have h : (Sum.inl 0 :: l : List (Int ⊕ List Nat)) = Sum.inl 0 :: m := h
    exact ⟨rfl, (List.cons.inj h).2⟩
  | [], u :: us, _, _, l, m, h => by
    rw [List.map_cons, PySem.W.keyToksAll] at h
    have h : (Sum.inl 0 :: l : List (Int ⊕ List Nat)) = Sum.inl 1 :: _ := h
    exfalso
    have := (List.cons.inj h).1
    simp at this
  | z :: zs, [], _, _, l, m, h => by
    rw [List.map_cons, PySem.W.keyToksAll] at h
    have h : (Sum.inl 1 :: _ : List (Int ⊕ List Nat)) = Sum.inl 0 :: m := h
    exfalso
    have := (List.cons.inj h).1
    simp at this
  | z :: zs, u :: us, h1, h2, l, m, h => by
    rw [List.map_cons, List.map_cons, PySem.W.keyToksAll, PySem.W.keyToksAll, List.cons_append, List.cons_append, List.append_assoc, List.append_assoc] at h
    obtain ⟨e1, e2⟩ := ord1_toks (h1 z List.mem_cons_self) (h2 u List.mem_cons_self) (List.cons.inj h).2
    obtain ⟨e3, e4⟩ := ords_toks (fun x hx => h1 x (List.mem_cons_of_mem _ hx)) (fun x hx => h2 x (List.mem_cons_of_mem _ hx)) e2
    exact ⟨by rw [e1, e3], e4⟩
theorem toks3 (a b c : PyData) : PySem.W.keyToks (.tuple [a, b, c]) = .inl 1 :: (PySem.W.keyToks a ++ .inl 1 :: (PySem.W.keyToks b ++ .inl 1 :: (PySem.W.keyToks c ++ [.inl 0]))) := by
  rw [PySem.W.keyToks, PySem.W.keyToksAll, PySem.W.keyToksAll, PySem.W.keyToksAll, PySem.W.keyToksAll]
theorem key_toks {x y : PyData} (hx : IsT x) (hy : IsT y) (h : PySem.W.keyToks (NestedKey.data (.tup (keyN x))) = PySem.W.keyToks (NestedKey.data (.tup (keyN y)))) : x = y := by
  cases hx with
  | fact r zs h1 h2 h3 =>
    rw [key_fact h1, toks3] at h
    cases hy with
    | fact r' us g1 g2 g3 =>
      rw [key_fact g1, toks3] at h
      have h : (Sum.inl 1 :: Sum.inl 0 :: Sum.inl 1 :: Sum.inr r.cps.toList :: Sum.inl 1 :: (PySem.W.keyToksAll (zs.map ord1) ++ [Sum.inl 0]) : List (Int ⊕ List Nat)) = Sum.inl 1 :: Sum.inl 0 :: Sum.inl 1 :: Sum.inr r'.cps.toList :: Sum.inl 1 :: (PySem.W.keyToksAll (us.map ord1) ++ [Sum.inl 0]) := h
      simp only [List.cons.injEq, true_and] at h
      rw [str_toks (Sum.inr.inj h.1), (ords_toks h1 g1 h.2).1]
    | rule t g =>
      rw [key_rule, toks3] at h
      have h : (Sum.inl 1 :: Sum.inl 0 :: _ : List (Int ⊕ List Nat)) = Sum.inl 1 :: Sum.inl 1 :: _ := h
      exfalso
      have := (List.cons.inj (List.cons.inj h).2).1
      simp at this
  | rule t h1 =>
    rw [key_rule, toks3] at h
    cases hy with
    | fact r' us g1 g2 g3 =>
      rw [key_fact g1, toks3] at h
      have h : (Sum.inl 1 :: Sum.inl 1 :: _ : List (Int ⊕ List Nat)) = Sum.inl 1 :: Sum.inl 0 :: _ := h
      exfalso
      have := (List.cons.inj (List.cons.inj h).2).1
      simp at this
    | rule t' g =>
      rw [key_rule, toks3] at h
      have h : (Sum.inl 1 :: Sum.inl 1 :: Sum.inl 1 :: Sum.inr t.cps.toList :: _ : List (Int ⊕ List Nat)) = Sum.inl 1 :: Sum.inl 1 :: Sum.inl 1 :: Sum.inr t'.cps.toList :: _ := h
      simp only [List.cons.injEq, true_and] at h
      rw [str_toks (Sum.inr.inj h.1)]
/-! the rows of things in order -/
theorem mkD_nd {ps : List (NK × W)} : (mkD ps).Nodup := by
  have h := mkD_nodup ps
  exact (List.pairwise_map.mp h).imp fun {a b} h e => h (by rw [e])
theorem key_inj {x y : PyData} (hx : IsT x) (hy : IsT y) (h : (keyP x).1 = (keyP y).1) : x = y := key_toks hx hy (by rw [show NestedKey.tup (keyN x) = NestedKey.tup (keyN y) from h])
theorem mkD_key {xs : List PyData} (hx : ∀ x ∈ xs, IsT x) {p : NK × W} : p ∈ mkD (xs.map keyP) ↔ ∃ x ∈ xs, p = keyP x := by
  constructor
  · intro h
    obtain ⟨x, h1, h2⟩ := List.mem_map.mp (mkD_mem h)
    exact ⟨x, h1, h2.symm⟩
  · rintro ⟨x, h1, rfl⟩
    have hk : (keyP x).1 ∈ (mkD (xs.map keyP)).map (·.1) := (mkD_keys _ _).mpr (List.mem_map.mpr ⟨keyP x, List.mem_map.mpr ⟨x, h1, rfl⟩, rfl⟩)
    obtain ⟨q, hq, e⟩ := List.mem_map.mp hk
    obtain ⟨y, hy, ey⟩ := List.mem_map.mp (mkD_mem hq)
    subst ey
    rw [← key_inj (hx y hy) (hx x h1) e]
    exact hq
theorem inP_eq {xs ys : List PyData} (hx : ∀ x ∈ xs, IsT x) (hy : ∀ y ∈ ys, IsT y) (h : ∀ z, z ∈ xs ↔ z ∈ ys) : inP xs = inP ys := by
  refine sortP_eq ((List.perm_ext_iff_of_nodup mkD_nd mkD_nd).mpr fun p => ?_) fun a ha b hb e => ?_
  · rw [mkD_key hx, mkD_key hy]
    exact ⟨fun ⟨z, h1, h2⟩ => ⟨z, (h z).mp h1, h2⟩, fun ⟨z, h1, h2⟩ => ⟨z, (h z).mpr h1, h2⟩⟩
  · obtain ⟨x, h1, rfl⟩ := (mkD_key hx).mp ha
    obtain ⟨y, h2, rfl⟩ := (mkD_key hx).mp hb
    rw [key_toks (hx x h1) (hx y h2) e]
theorem inOrd_eq {xs ys : List PyData} (hx : ∀ x ∈ xs, IsT x) (hy : ∀ y ∈ ys, IsT y) (h : ∀ z, z ∈ xs ↔ z ∈ ys) : inOrd xs = inOrd ys := by unfold inOrd; rw [inP_eq hx hy h]
theorem inOrd_mem {xs : List PyData} (hx : ∀ x ∈ xs, IsT x) {z : PyData} : z ∈ inOrd xs ↔ z ∈ xs := by
  unfold inOrd inP
  rw [List.mem_map]
  constructor
  · rintro ⟨p, h, rfl⟩
    obtain ⟨x, h1, rfl⟩ := (mkD_key hx).mp (sortP_mem.mp h)
    exact h1
  · intro h
    exact ⟨keyP z, sortP_mem.mpr ((mkD_key hx).mpr ⟨z, h, rfl⟩), rfl⟩
theorem inOrd_isT {xs : List PyData} (hx : ∀ x ∈ xs, IsT x) : ∀ x ∈ inOrd xs, IsT x := fun x h => hx x ((inOrd_mem hx).mp h)
theorem inOrd_idem {xs : List PyData} (hx : ∀ x ∈ xs, IsT x) : inOrd (inOrd xs) = inOrd xs := inOrd_eq (inOrd_isT hx) hx fun _ => inOrd_mem hx
theorem inOrd_nodup {xs : List PyData} (hx : ∀ x ∈ xs, IsT x) : (inOrd xs).Nodup := by
  unfold inOrd inP
  refine List.pairwise_map.mpr (List.Pairwise.imp_of_mem ?_ ((List.mergeSort_perm (mkD (xs.map keyP)) _).nodup_iff.mpr mkD_nd))
  intro a b ha hb h e
  obtain ⟨x, h1, rfl⟩ := (mkD_key hx).mp (sortP_mem.mp ha)
  obtain ⟨y, h2, rfl⟩ := (mkD_key hx).mp (sortP_mem.mp hb)
  have e : x = y := e
  exact h (by rw [e])
theorem inOrd_len {xs : List PyData} : (inOrd xs).length ≤ xs.length := by
  unfold inOrd inP
  rw [List.length_map, sortP_len]
  exact Nat.le_trans (mk_len _) (by rw [List.length_map]; exact Nat.le_refl _)
/-! eqv of things -/
theorem eqv_all_self {xs : List PyData} (h : ∀ x ∈ xs, PyData.eqv x x = true) : PyData.eqvAll xs xs = true := by
  induction xs with
  | nil => rfl
  | cons x xs ih =>
    rw [PyData.eqvAll, h x List.mem_cons_self, ih fun y hy => h y (List.mem_cons_of_mem _ hy)]
    rfl
theorem eqv_val {z u : PyData} (hz : isValue z = true) (hu : isValue u = true) : PyData.eqv z u = true ↔ z = u := by
  cases z with
  | int i =>
    cases u with
    | int j =>
      have e : PyData.eqv (.int i) (.int j) = (i == j) := rfl
      rw [e]
      simp
    | str t => simp [PyData.eqv]
    | _ => cases hu
  | str s =>
    cases u with
    | int j => simp [PyData.eqv]
    | str t => simp [PyData.eqv]
    | _ => cases hu
  | _ => cases hz
theorem eqv_vals : ∀ {zs us : List PyData}, (∀ z ∈ zs, isValue z = true) → (∀ z ∈ us, isValue z = true) → (PyData.eqvAll zs us = true ↔ zs = us)
  | [], [], _, _ => by simp [PyData.eqvAll]
  | [], _ :: _, _, _ => by simp [PyData.eqvAll]
  | _ :: _, [], _, _ => by simp [PyData.eqvAll]
  | z :: zs, u :: us, h1, h2 => by
    rw [PyData.eqvAll, Bool.and_eq_true, eqv_val (h1 z List.mem_cons_self) (h2 u List.mem_cons_self), eqv_vals (fun x hx => h1 x (List.mem_cons_of_mem _ hx)) (fun x hx => h2 x (List.mem_cons_of_mem _ hx))]
    simp
theorem eqv_sT {s t : Str} : PyData.eqv (.str s) (.str t) = true ↔ s = t := by simp [PyData.eqv]
theorem eqv_isT {x y : PyData} (hx : IsT x) (hy : IsT y) : PyData.eqv x y = true ↔ x = y := by
  cases hx with
  | fact r zs h1 h2 h3 =>
    cases hy with
    | fact r' us g1 g2 g3 =>
      have e : PyData.eqv (.tuple [.str "fact", .str r, .tuple zs]) (.tuple [.str "fact", .str r', .tuple us]) = (PyData.eqv (.str "fact") (.str "fact") && (PyData.eqv (.str r) (.str r') && (PyData.eqvAll zs us && true))) := rfl
      rw [e, Bool.and_eq_true, Bool.and_eq_true, Bool.and_eq_true, eqv_sT, eqv_sT, eqv_vals h1 g1]
      simp
    | rule t g =>
      have e : PyData.eqv (.tuple [.str "fact", .str r, .tuple zs]) (.tuple [.str "rule", .str t]) = (PyData.eqv (.str "fact") (.str "rule") && (PyData.eqv (.str r) (.str t) && false)) := rfl
      rw [e]
      simp
  | rule t h1 =>
    cases hy with
    | fact r' us g1 g2 g3 =>
      have e : PyData.eqv (.tuple [.str "rule", .str t]) (.tuple [.str "fact", .str r', .tuple us]) = (PyData.eqv (.str "rule") (.str "fact") && (PyData.eqv (.str t) (.str r') && false)) := rfl
      rw [e]
      simp
    | rule t' g =>
      have e : PyData.eqv (.tuple [.str "rule", .str t]) (.tuple [.str "rule", .str t']) = (PyData.eqv (.str "rule") (.str "rule") && (PyData.eqv (.str t) (.str t') && true)) := rfl
      rw [e, Bool.and_eq_true, Bool.and_eq_true, eqv_sT, eqv_sT]
      simp
theorem eqv_isTs : ∀ {xs ys : List PyData}, (∀ x ∈ xs, IsT x) → (∀ y ∈ ys, IsT y) → (PyData.eqvAll xs ys = true ↔ xs = ys)
  | [], [], _, _ => by simp [PyData.eqvAll]
  | [], _ :: _, _, _ => by simp [PyData.eqvAll]
  | _ :: _, [], _, _ => by simp [PyData.eqvAll]
  | x :: xs, y :: ys, h1, h2 => by
    rw [PyData.eqvAll, Bool.and_eq_true, eqv_isT (h1 x List.mem_cons_self) (h2 y List.mem_cons_self), eqv_isTs (fun z hz => h1 z (List.mem_cons_of_mem _ hz)) (fun z hz => h2 z (List.mem_cons_of_mem _ hz))]
    simp
theorem eqv_rows {xs ys : List PyData} (h1 : ∀ x ∈ xs, IsT x) (h2 : ∀ y ∈ ys, IsT y) : PyData.eqv (.tuple xs) (.tuple ys) = true ↔ xs = ys := eqv_isTs h1 h2
/-! rows that are turned, or longer, are not in order -/
theorem turned_ne {x : PyData} {xs : List PyData} (h : (x :: xs).Nodup) (hl : xs ≠ []) : xs ++ [x] ≠ x :: xs := by
  cases xs with
  | nil => exact absurd rfl hl
  | cons y ys =>
    intro e
    have := (List.cons.inj e).1
    rw [List.nodup_cons] at h
    exact h.1 (this ▸ List.mem_cons_self)
end Mine


set_option Elab.async false
set_option linter.all false
set_option maxRecDepth 100000
set_option maxHeartbeats 4000000
namespace Mine
open PySem PySem.Spec PyProof.Rows L2 DL
variable [Wd]

/-! ### drawn things are good ones -/
def lenB (z : PyData) : Bool := match z with
  | .int i => decide (i.natAbs.log2 < 1920)
  | .str s => decide (s.length ≤ 1000)
  | _ => true
def lineB (x : PyData) : Bool := match x with
  | .tuple [_, .str r, .tuple zs] => decide (zs.length ≤ 6) && (decide (r.length ≤ 1000) && (decide ((vtxt zs).length ≤ 10000) && (decide (((zs.map txt1).map (·.length)).sum ≤ 10000) && zs.all lenB)))
  | .tuple [_, .str t] => decide (t.length ≤ 1000)
  | _ => true
theorem line_of {x : PyData} (h : lineB x = true) : LineOk x := by
  refine ⟨fun a r zs e => ?_, fun a t e => ?_⟩
  · subst e
    have h : (decide (zs.length ≤ 6) && (decide (r.length ≤ 1000) && (decide ((vtxt zs).length ≤ 10000) && (decide (((zs.map txt1).map (·.length)).sum ≤ 10000) && zs.all lenB)))) = true := h
    simp only [Bool.and_eq_true] at h
    refine ⟨of_decide_eq_true h.1, of_decide_eq_true h.2.1, of_decide_eq_true h.2.2.1, of_decide_eq_true h.2.2.2.1, fun z hz => ?_⟩
    have hz := List.all_eq_true.mp h.2.2.2.2 z hz
    exact ⟨fun i e => by subst e; exact of_decide_eq_true hz, fun s e => by subst e; exact of_decide_eq_true hz⟩
  · subst e
    exact of_decide_eq_true h
def goodB (x : PyData) : Bool := isThing x && (niceB x && (lineB x && (PyData.canLay0 x && (decide (x.depth ≤ 8) && (PyData.canLay0 (NestedKey.data (.tup (keyN x))) && SeqAt.shaped (.str (lineOf x)))))))
structure Good (x : PyData) : Prop where
  th : isThing x = true
  ni : Nice x
  li : LineOk x
  la : PyData.canLay0 x = true
  dp : x.depth ≤ 8
  kl : PyData.canLay0 (NestedKey.data (.tup (keyN x))) = true
  ls : SeqAt.shaped (.str (lineOf x)) = true
theorem good_of {x : PyData} (h : goodB x = true) : Good x := by
  unfold goodB at h
  simp only [Bool.and_eq_true] at h
  exact ⟨h.1, nice_of h.2.1, line_of h.2.2.1, h.2.2.2.1, of_decide_eq_true h.2.2.2.2.1, h.2.2.2.2.2.1, h.2.2.2.2.2.2⟩
theorem Good.t {x : PyData} (h : Good x) : IsT x := isT_of h.th
theorem four_good : ∀ x ∈ four, Good x := fun x hx => good_of (List.all_eq_true.mp (show four.all goodB = true by decide +kernel) x hx)
theorem rule_good : ∀ p ∈ rulesL, Good (.tuple [.str "rule", kD p.1]) := fun p hp => good_of (List.all_eq_true.mp (show rulesL.all (fun p => goodB (.tuple [.str "rule", kD p.1])) = true by decide +kernel) p hp)
theorem fact_good : ∀ r ∈ rels, ∀ a ∈ nums ++ wrds, ∀ b ∈ nums ++ wrds, Good (.tuple [.str "fact", .str r, .tuple [a, b]]) := fun r hr a ha b hb => by
  have h : (rels.all fun r => (nums ++ wrds).all fun a => (nums ++ wrds).all fun b => goodB (.tuple [.str "fact", .str r, .tuple [a, b]])) = true := by decide +kernel
  exact good_of (List.all_eq_true.mp (List.all_eq_true.mp (List.all_eq_true.mp h r hr) a ha) b hb)
theorem texts_mem {x : PyData} (h : x ∈ textsD) : ∃ p ∈ rulesL, x = kD p.1 := by
  unfold textsD sortD at h
  obtain ⟨p, h1, h2⟩ := List.mem_map.mp ((List.mergeSort_perm _ _).mem_iff.mp h)
  exact ⟨p, mkD_mem h1, h2.symm⟩
theorem thing_good (ns : List Int) (d : Dr) : Good (thingOf ns d) := by
  unfold thingOf
  dsimp only
  split
  · obtain ⟨r0, r1⟩ := takeF_lt (ns := ns) (k := (d.next ns 8).k) (big := (d.next ns 8).b) (lim := 8) (by decide)
    have hl : (takeF ns (d.next ns 8).k (d.next ns 8).b 8).toNat < textsD.length := by rw [texts_len]; omega
    rw [List.getD_eq_getElem?_getD, List.getElem?_eq_getElem hl]
    obtain ⟨p, h1, h2⟩ := texts_mem (List.getElem_mem hl)
    show Good (.tuple [.str "rule", textsD[(takeF ns (d.next ns 8).k (d.next ns 8).b 8).toNat]])
    rw [h2]
    exact rule_good p h1
  · split
    · obtain ⟨r0, r1⟩ := takeF_lt (ns := ns) (k := (d.next ns 8).k) (big := (d.next ns 8).b) (lim := 4) (by decide)
      have hl : (takeF ns (d.next ns 8).k (d.next ns 8).b 4).toNat < four.length := by show _ < 4; omega
      rw [List.getD_eq_getElem?_getD, List.getElem?_eq_getElem hl]
      exact four_good _ (List.getElem_mem hl)
    · exact fact_good _ (fRel_mem _ _ _) _ (dV_mem _ _ _ _) _ (dV_mem _ _ _ _)
/-! rows of drawn things -/
def thAt (ns : List Int) (d : Dr) : Nat → Dr
  | 0 => d
  | i + 1 => thEnd ns (thAt ns d i)
def things (ns : List Int) (d : Dr) (n : Nat) : List PyData := (List.range n).map fun i => thingOf ns (thAt ns d i)
theorem things_good (ns : List Int) (d : Dr) (n : Nat) : ∀ x ∈ things ns d n, Good x := fun x hx => by
  obtain ⟨i, _, rfl⟩ := List.mem_map.mp hx
  exact thing_good _ _
theorem things_len (ns : List Int) (d : Dr) (n : Nat) : (things ns d n).length = n := by unfold things; rw [List.length_map, List.length_range]
theorem things_succ (ns : List Int) (d : Dr) (i : Nat) : things ns d (i + 1) = things ns d i ++ [thingOf ns (thAt ns d i)] := by
  unfold things
  rw [List.range_succ, List.map_append]
  rfl
theorem thEnd_k {ns : List Int} {d : Dr} (h : 0 ≤ d.k) : 0 ≤ (thEnd ns d).k := by
  have h1 : 0 ≤ (d.next ns 8).k := takeK_le h
  unfold thEnd
  dsimp only
  split
  · exact takeK_le h1
  · split
    · exact takeK_le h1
    · exact takeK_le (takeK_le (takeK_le h1))
theorem thAt_k {ns : List Int} {d : Dr} (h : 0 ≤ d.k) : ∀ i, 0 ≤ (thAt ns d i).k
  | 0 => h
  | i + 1 => thEnd_k (thAt_k h i)
/-- the comprehension that draws things -/
theorem draw_ev {K : PySem.W.Frag} {ns : List Int} {δ : Dl} {μ : Mu} {n v lim : Nat} {d : Dr} (hδ : ∀ w, ((wipeD δ [v]).set v w)[1]? = some (some (.p n))) (hδ1 : δ[1]? = some (some (.p n))) (hv : v < δ.length) (hm : μ[n]? = some (stD ns d)) (h0 : 0 ≤ d.k) (hl : 0 < lim) (hl2 : lim ≤ 100) :
    Ev K (tLc (iRng1 (tCons (tCallS (spOf K 2 phTake) (WE (fun _ _ _ _ => False)) (tCons (tVar 1) (tCons (tC (.int (lim : Nat))) tNil))) tNil)) (gName v) tYes (tCallS (spOf K 1 phAThing) (WE (fun _ _ _ _ => False)) (tCons (tVar 1) tNil)) [v]) δ μ
      (.p μ.length) (μ.set n (stD ns (thAt ns (d.next ns lim) (takeF ns d.k d.b lim).toNat)) ++ [.lst ((things ns (d.next ns lim) (takeF ns d.k d.b lim).toNat).map .d)]) := by
  obtain ⟨r0, r1⟩ := takeF_lt (ns := ns) (k := d.k) (big := d.b) (lim := (lim : Nat)) (by omega)
  have hk1 : 0 ≤ (d.next ns lim).k := takeK_le h0
  have hn : n < μ.length := gl hm
  have ll : (μ.set n (stD ns (thAt ns (d.next ns lim) (takeF ns d.k d.b lim).toNat))).length = μ.length := List.length_set
  have c1 : Ev K (tCallS (spOf K 2 phTake) (WE (fun _ _ _ _ => False)) (tCons (tVar 1) (tCons (tC (.int (lim : Nat))) tNil))) δ μ (.i (takeF ns d.k d.b lim)) (μ.set n (stD ns (d.next ns lim))) :=
    ev_call (n := 2) (ea_cons (ev_var hδ1) (ea_cons ev_int ea_nil)) rfl ⟨n, ns, d.k, d.b, lim, rfl, hm, h0, by omega, by omega, rfl⟩
  have := ev_lcP (K := K) (δ := δ) (μ' := μ.set n (stD ns (thAt ns (d.next ns lim) (takeF ns d.k d.b lim).toNat))) (te := tCallS (spOf K 1 phAThing) (WE (fun _ _ _ _ => False)) (tCons (tVar 1) tNil)) (tt := tYes) (g := gName v) (vs := [v]) (xs := (things ns (d.next ns lim) (takeF ns d.k d.b lim).toNat).map .d)
    (ei_rng1 (ea_cons c1 ea_nil) (by omega) (by omega)) mg_name (tg_name (by simp)) (by rw [rangeW_len]; exact Nat.le_trans (show _ ≤ 100 by omega) (by decide))
    (fun i μi acc => μi = μ.set n (stD ns (thAt ns (d.next ns lim) i)) ∧ acc = (things ns (d.next ns lim) i).map .d) ⟨rfl, rfl⟩ (fun _ _ _ _ => trivial) (fun i w μi acc hw z => by
      obtain ⟨rfl, rfl⟩ := z
      have m1 : (μ.set n (stD ns (thAt ns (d.next ns lim) i)))[n]? = some (stD ns (thAt ns (d.next ns lim) i)) := gS hm
      refine ⟨_, _, true, _, eg_name, et_nil, fun _ => ⟨.d (thingOf ns (thAt ns (d.next ns lim) i)), μ.set n (stD ns (thAt ns (d.next ns lim) (i + 1))), ?_, rfl, ?_⟩, fun h => nomatch h⟩
      · have c := ev_call (K := K) (n := 1) (Φ := phAThing) (E := WE (fun _ _ _ _ => False)) (δ := (wipeD δ [v]).set v (some w)) (ea_cons (ev_var (i := 1) (hδ _)) ea_nil) rfl ⟨n, ns, thAt ns (d.next ns lim) i, rfl, m1, thAt_k hk1 i, rfl⟩
        rw [List.set_set] at c
        exact c
      · rw [things_succ, List.map_append]; rfl) (fun μi acc z => by
      obtain ⟨h1, h2⟩ := z
      rw [rangeW_len] at h1 h2
      exact ⟨h1, h2⟩)
  rw [ll] at this
  exact this
end Mine


set_option Elab.async false
set_option linter.all false
set_option maxRecDepth 100000
set_option maxHeartbeats 4000000
namespace Mine
open PySem PySem.Spec PyProof.Rows L2 DL
variable [Wd]

/-! ### data in rows -/
theorem lay_all {xs : List PyData} (h : ∀ x ∈ xs, PyData.canLay0 x = true) : PyData.canLayAll0 xs = true := by
  induction xs with
  | nil => rfl
  | cons x xs ih => rw [PyData.canLayAll0, h x List.mem_cons_self, ih fun y hy => h y (List.mem_cons_of_mem _ hy)]; rfl
theorem dep_all {xs : List PyData} {n : Nat} (h : ∀ x ∈ xs, x.depth ≤ n) : PyData.depthAll xs ≤ n := by
  induction xs with
  | nil => exact Nat.zero_le _
  | cons x xs ih => exact Nat.max_le.mpr ⟨h x List.mem_cons_self, ih fun y hy => h y (List.mem_cons_of_mem _ hy)⟩
theorem lay_tup {xs : List PyData} (h : ∀ x ∈ xs, PyData.canLay0 x = true ∧ x.depth ≤ 60) : PyData.canLay0 (.tuple xs) = true ∧ SeqAt.shaped (.tuple xs) = true := by
  have h1 : PyData.canLay0 (.tuple xs) = true := lay_all fun x hx => (h x hx).1
  refine ⟨h1, ?_⟩
  unfold SeqAt.shaped
  rw [Bool.and_eq_true]
  refine ⟨h1, decide_eq_true ?_⟩
  have := dep_all fun x hx => (h x hx).2
  show PyData.depthAll xs + 1 ≤ 64
  omega
theorem lay_lst {xs : List PyData} (h : ∀ x ∈ xs, PyData.canLay0 x = true ∧ x.depth ≤ 60) : PyData.canLay0 (.list xs) = true ∧ SeqAt.shaped (.list xs) = true := by
  have h1 : PyData.canLay0 (.list xs) = true := lay_all fun x hx => (h x hx).1
  refine ⟨h1, ?_⟩
  unfold SeqAt.shaped
  rw [Bool.and_eq_true]
  refine ⟨h1, decide_eq_true ?_⟩
  have := dep_all fun x hx => (h x hx).2
  show PyData.depthAll xs + 1 ≤ 64
  omega
theorem Good.ld {x : PyData} (h : Good x) : PyData.canLay0 x = true ∧ x.depth ≤ 60 := ⟨h.la, Nat.le_trans h.dp (by decide)⟩
theorem good_rows {xs : List PyData} (h : ∀ x ∈ xs, Good x) : SeqAt.shaped (.tuple xs) = true := (lay_tup fun x hx => (h x hx).ld).2
theorem good_isT {xs : List PyData} (h : ∀ x ∈ xs, Good x) : ∀ x ∈ xs, IsT x := fun x hx => (h x hx).t
theorem good_ord {xs : List PyData} (h : ∀ x ∈ xs, Good x) : ∀ x ∈ inOrd xs, Good x := fun x hx => h x ((inOrd_mem (good_isT h)).mp hx)
/-! the law's store -/
structure Ms (ns : List Int) (one other : List PyData) (d : Dr) (μ : Mu) : Prop where
  c0 : μ[0]? = some (stD ns d)
  k0 : 0 ≤ d.k
  c1 : μ[1]? = some (.lst (one.map .d))
  c2 : μ[2]? = some (.lst (other.map .d))
theorem Ms.app {ns : List Int} {one other : List PyData} {d : Dr} {μ ys : Mu} (m : Ms ns one other d μ) : Ms ns one other d (μ ++ ys) := ⟨ga m.c0, m.k0, ga m.c1, ga m.c2⟩
theorem Ms.set {ns : List Int} {one other : List PyData} {d d' : Dr} {μ : Mu} (m : Ms ns one other d μ) (h : 0 ≤ d'.k) : Ms ns one other d' (μ.set 0 (stD ns d')) :=
  ⟨gS m.c0, h, gs (by decide) m.c1, gs (by decide) m.c2⟩
theorem sh_end {ns : List Int} {d : Dr} {xs : List PyData} : (shEnd ns d xs).acc.length = xs.length ∧ (shEnd ns d xs).acc.Perm xs ∧ (0 ≤ d.k → 0 ≤ (shEnd ns d xs).d.k) := by
  obtain ⟨h1, h2, h3, h4⟩ := sh_left (ns := ns) (d := d) (xs := xs) xs.length (Nat.le_refl _)
  refine ⟨h2, ?_, h4⟩
  have h0 : (shAt ns d xs xs.length).left = [] := List.eq_nil_of_length_eq_zero (by omega)
  rw [h0, List.nil_append] at h3
  exact h3
theorem Ms.sh {ns : List Int} {one other : List PyData} {d : Dr} {μ : Mu} (m : Ms ns one other d μ) (xs : List PyData) : Ms ns one other (shEnd ns d xs).d (shM μ 0 ns (shEnd ns d xs)) := ((m.set (sh_end.2.2 m.k0)).app).app
/-- a shuffled row, called -/
theorem shuf_ev {K : PySem.W.Frag} {ns : List Int} {one other : List PyData} {d : Dr} {μ μ1 : Mu} {δ : Dl} {te : TE} {w : W} {xs : List PyData} (hδ : δ[1]? = some (some (.p 0))) (e : Ev K te δ μ w μ1) (m : Ms ns one other d μ1) (hs : DL.Seq μ1 w (xs.map .d)) (hl : xs.length ≤ 1000) :
    Ev K (tCallS (spOf K 2 phShuf) (WE (fun _ _ _ _ => False)) (tCons (tVar 1) (tCons te tNil))) δ μ (.p (μ1.length + 1)) (shM μ1 0 ns (shEnd ns d xs)) :=
  ev_call (n := 2) (ea_cons (ev_var hδ) (ea_cons e ea_nil)) rfl ⟨0, ns, d, w, xs, rfl, m.c0, m.k0, hs, hl, rfl⟩
theorem shuf_seq {ns : List Int} {d : Dr} {μ : Mu} {xs : List PyData} : DL.Seq (shM μ 0 ns (shEnd ns d xs)) (.p (μ.length + 1)) ((shEnd ns d xs).acc.map .d) := by
  refine .l (.p ?_)
  unfold shM
  have : (μ.set 0 (stD ns (shEnd ns d xs).d) ++ [Cell.lst ((shEnd ns d xs).left.map W.d)]).length = μ.length + 1 := by rw [List.length_append, List.length_set]; rfl
  rw [← this]
  exact gL
section
variable {K : PySem.W.Frag} {a : Ad} {ns : List Int} {one other : List PyData} {d : Dr} {μ : Mu} {x4 x5 x6 x7 x8 x9 x10 : Option W}
abbrev Fr (ns : List Int) (x4 x5 x6 x7 x8 x9 x10 : Option W) : Dl := [some (.d (scr ns)), some (.p 0), some (.p 1), some (.p 2), x4, x5, x6, x7, x8, x9, x10]
theorem et_no {tt tu : TT} {δ : Dl} {μ μ1 μ2 : Mu} (h1 : EvT K tt δ μ false μ1) (h2 : EvT K tu δ μ1 false μ2) : EvT K (tOr tt tu) δ μ false μ2 := et_or (a := false) (b := false) h1 fun _ => h2
theorem s4 (m : Ms ns one other d μ) (g : ∀ x ∈ one, Good x) (hl : one.length ≤ 100) : ∃ d' μ', Ms ns one other d' μ' ∧
    EvT K (tOr (tTest (tOp (rNeA K) (tCallS (spOf K 1 (phInOrder a)) (WE (fun _ _ _ _ => False)) (tCons (tCallS (spOf K 2 phShuf) (WE (fun _ _ _ _ => False)) (tCons (tVar 1) (tCons (tOp (rAddV K) (tVar 2) (tVar 2)) tNil))) tNil)) (tVar 4))) (tOr (tTest (tOp rNotB (tCallS (spOf K 1 phAre) (WE (fun _ _ _ _ => False)) (tCons (tVar 4) tNil)) (tC (.bl true)))) (tTest (tOp rNotB (tCallS (spOf K 1 phAre) (WE (fun _ _ _ _ => False)) (tCons (tCB (rLstU K) (tCons (tVar 4) tNil)) tNil)) (tC (.bl false))))))
      (Fr ns (some (.d (.tuple (inOrd one)))) x5 x6 x7 x8 x9 x10) μ false μ' := by
  have hT := good_isT g
  have hR := good_ord g
  have hRT := good_isT hR
  have m1 := m.app (ys := [Cell.lst (one.map W.d ++ one.map W.d)])
  have m2 := m1.sh (one ++ one)
  obtain ⟨p1, p2, p3⟩ := sh_end (ns := ns) (d := d) (xs := one ++ one)
  have hmem : ∀ z, z ∈ (shEnd ns d (one ++ one)).acc ↔ z ∈ one := fun z => by rw [p2.mem_iff, List.mem_append, or_self]
  have hg : ∀ x ∈ (shEnd ns d (one ++ one)).acc, Good x := fun x hx => g x ((hmem x).mp hx)
  have eO : inOrd (shEnd ns d (one ++ one)).acc = inOrd one := inOrd_eq (good_isT hg) hT hmem
  refine ⟨_, _, m2, ?_⟩
  have hll : (inOrd one).length ≤ 1000 := Nat.le_trans inOrd_len (Nat.le_trans hl (by decide))
  refine et_no (μ1 := shM (μ ++ [Cell.lst (one.map W.d ++ one.map W.d)]) 0 ns (shEnd ns d (one ++ one))) ?_ (et_no (μ1 := shM (μ ++ [Cell.lst (one.map W.d ++ one.map W.d)]) 0 ns (shEnd ns d (one ++ one))) ?_ ?_)
  · refine et_is (et_test (ev_op (ev_call (n := 1) (w := .d (.tuple (inOrd (shEnd ns d (one ++ one)).acc))) (ea_cons (shuf_ev (xs := one ++ one) rfl (ev_op (ev_var rfl) (ev_var rfl) (rv_addVL m.c1 m.c1 (by
        simp only [List.length_map]; exact Nat.le_trans (show _ ≤ 200 by omega) (by decide)))) m1 (.l (.p (by rw [List.map_append]; exact gL))) (by rw [List.length_append]; omega)) ea_nil) rfl
        ⟨_, (shEnd ns d (one ++ one)).acc, rfl, shuf_seq, by rw [p1, List.length_append]; omega, fun x hx => (hg x hx).ni, .inr ⟨fun x hx => (hg x hx).th, rfl⟩⟩) (ev_var rfl) (rv_neX (.d _) (.d _) (by rw [eO]; exact good_rows hR) (good_rows hR)))) ?_
    rw [eO, (eqv_rows hRT hRT).mpr rfl]
    rfl
  · refine et_is (et_test (ev_op (ev_call (n := 1) (ea_cons (ev_var rfl) ea_nil) rfl ⟨_, rfl, .inr ⟨inOrd one, rfl, hll, fun x hx => ⟨(hR x hx).ni, (hR x hx).th⟩, good_rows hR, by rw [inOrd_idem hT]; exact good_rows hR, rfl⟩⟩) ev_bl rv_notB)) ?_
    rw [inOrd_idem hT, (eqv_rows hRT hRT).mpr rfl]
    rfl
  · exact et_is (et_test (ev_op (ev_call (n := 1) (w := .b false) (ea_cons (ev_cb (ea_cons (ev_var rfl) ea_nil) (rc_lstD (.t _))) ea_nil) rfl ⟨_, rfl, .inl ⟨rfl, rfl⟩⟩) ev_bl rv_notB)) rfl
end
end Mine


set_option Elab.async false
set_option linter.all false
set_option maxRecDepth 100000
set_option maxHeartbeats 4000000
namespace Mine
open PySem PySem.Spec PyProof.Rows L2 DL
variable [Wd]

section
variable {K : PySem.W.Frag} {a : Ad} {ns : List Int} {one other : List PyData} {d : Dr} {μ : Mu} {x4 x5 x6 x7 x8 x9 x10 : Option W}
theorem cut_tl {α : Type} (x : α) (xs : List α) : DL.cutD (x :: xs) (some 1) none = xs := cut_drop (by decide)
theorem cut_hd {α : Type} (x : α) (xs : List α) : DL.cutD (x :: xs) none (some 1) = [x] := by
  unfold DL.cutD
  have e : HT.sIx (x :: xs).length (x :: xs).length (some 1) = 1 := by
    rw [show (some 1 : Option Int) = some ((1 : Nat) : Int) from rfl, HT.sIx_nat, List.length_cons]
    omega
  rw [HT.sIx_none, e]
  rfl
theorem cut_last {α : Type} (xs : List α) (h : xs ≠ []) : ∃ z, z ∈ xs ∧ DL.cutD xs (some (-1)) none = [z] := by
  have hl : 0 < xs.length := List.length_pos_iff.mpr h
  refine ⟨xs[xs.length - 1], List.getElem_mem _, ?_⟩
  unfold DL.cutD
  have e : HT.sIx xs.length 0 (some (-1)) = xs.length - 1 := by
    show (if (-1 : Int) < 0 then ((-1 : Int) + (xs.length : Int)).toNat else min (-1 : Int).toNat xs.length) = _
    rw [if_pos (by decide)]
    omega
  rw [HT.sIx_none, e, List.drop_eq_getElem_cons (by omega), show xs.length - 1 + 1 = xs.length by omega, List.drop_length]
  rw [show xs.length - (xs.length - 1) = 1 by omega]
  rfl
theorem are_ev {te : TE} {xs : List PyData} {δ : Dl} (e : Ev K te δ μ (.d (.tuple xs)) μ) (hl : xs.length ≤ 1000) (g : ∀ x ∈ xs, Good x) : Ev K (tCallS (spOf K 1 phAre) (WE (fun _ _ _ _ => False)) (tCons te tNil)) δ μ (.b (PyData.eqv (.tuple (inOrd xs)) (.tuple xs))) μ :=
  ev_call (n := 1) (ea_cons e ea_nil) rfl ⟨_, rfl, .inr ⟨xs, rfl, hl, fun x hx => ⟨(g x hx).ni, (g x hx).th⟩, good_rows g, good_rows (good_ord g), rfl⟩⟩
theorem eqv_no {xs ys : List PyData} (h1 : ∀ x ∈ xs, IsT x) (h2 : ∀ y ∈ ys, IsT y) (h : xs ≠ ys) : PyData.eqv (.tuple xs) (.tuple ys) = false := by
  cases e : PyData.eqv (.tuple xs) (.tuple ys) with
  | false => rfl
  | true => exact absurd ((eqv_rows h1 h2).mp e) h
theorem s5 (g : ∀ x ∈ one, Good x) (hl : one.length ≤ 100) :
    EvT K (tOr (tAnd (tTest (tOp (rGtU K) (tCB (rLenU K) (tCons (tVar 4) tNil)) (tC (.int 1)))) (tTest (tOp rNotB (tCallS (spOf K 1 phAre) (WE (fun _ _ _ _ => False)) (tCons (tOp (rAddV K) (tSl (rSlU K) (tVar 4) (tPart (tC (.int 1))) tNoPart) (tSl (rSlU K) (tVar 4) tNoPart (tPart (tC (.int 1))))) tNil)) (tC (.bl false))))) (tAnd (tTest (tOp (rNeA K) (tVar 4) (tTup tNil))) (tTest (tOp rNotB (tCallS (spOf K 1 phAre) (WE (fun _ _ _ _ => False)) (tCons (tOp (rAddV K) (tVar 4) (tSl (rSlU K) (tVar 4) (tPart (tUn (rU fun i => .int (-i)) (tC (.int 1)))) tNoPart)) tNil)) (tC (.bl false))))))
      (Fr ns (some (.d (.tuple (inOrd one)))) x5 x6 x7 x8 x9 x10) μ false μ := by
  have hT := good_isT g
  have hR := good_ord g
  have hRT := good_isT hR
  have hnd := inOrd_nodup hT
  have hid := inOrd_idem hT
  have hll : (inOrd one).length ≤ 100 := Nat.le_trans inOrd_len hl
  generalize inOrd one = R at hR hRT hnd hid hll ⊢
  have zz : ∀ n, n ≤ 200 → n ≤ sizeLine := fun n h => Nat.le_trans h (by decide)
  refine et_no (μ1 := μ) ?_ ?_
  · refine et_is (et_and0 (a := decide ((1 : Int) < (R.length : Nat))) (b := false) (et_test (ev_op (e_len (ev_var rfl)) ev_int rv_gtV)) fun h => ?_) (Bool.and_false _)
    have h := of_decide_eq_true h
    cases R with
    | nil => exact absurd h (by show ¬ (1 : Int) < 0; decide)
    | cons x t =>
      have ht : t ≠ [] := by
        rintro rfl
        exact absurd h (by show ¬ (1 : Int) < 1; decide)
      have g2 : ∀ y ∈ t ++ [x], Good y := fun y hy => hR y (by
        rw [List.mem_append, List.mem_singleton] at hy
        rcases hy with hy | hy
        · exact List.mem_cons_of_mem _ hy
        · rw [hy]; exact List.mem_cons_self)
      have hm : ∀ z, z ∈ t ++ [x] ↔ z ∈ x :: t := fun z => by rw [List.mem_append, List.mem_singleton, List.mem_cons, or_comm]
      have e1 : Ev K (tSl (rSlU K) (tVar 4) (tPart (tC (.int 1))) tNoPart) (Fr ns (some (.d (.tuple (x :: t)))) x5 x6 x7 x8 x9 x10) μ (.d (.tuple t)) μ := by
        have := ev_sl (K := K) (μ := μ) (δ := Fr ns (some (.d (.tuple (x :: t)))) x5 x6 x7 x8 x9 x10) (te := tVar 4) (ev_var rfl) (eo_some (ev_int (i := 1))) eo_no (rs_tup (xs := x :: t))
        rw [cut_tl] at this
        exact this
      have e2 : Ev K (tSl (rSlU K) (tVar 4) tNoPart (tPart (tC (.int 1)))) (Fr ns (some (.d (.tuple (x :: t)))) x5 x6 x7 x8 x9 x10) μ (.d (.tuple [x])) μ := by
        have := ev_sl (K := K) (μ := μ) (δ := Fr ns (some (.d (.tuple (x :: t)))) x5 x6 x7 x8 x9 x10) (te := tVar 4) (ev_var rfl) eo_no (eo_some (ev_int (i := 1))) (rs_tup (xs := x :: t))
        rw [cut_hd] at this
        exact this
      have hlt : t.length + 1 ≤ 100 := hll
      refine et_is (et_test (ev_op (are_ev (ev_op e1 e2 (rv_addVT (zz _ (by rw [List.length_singleton]; omega)))) (by rw [List.length_append, List.length_singleton]; omega) g2) ev_bl rv_notB)) ?_
      rw [inOrd_eq (good_isT g2) hRT hm, hid, eqv_no hRT (good_isT g2) fun e => turned_ne hnd ht e.symm]
      rfl
  · have en : EvT K (tTest (tOp (rNeA K) (tVar 4) (tTup tNil))) (Fr ns (some (.d (.tuple R))) x5 x6 x7 x8 x9 x10) μ (!PyData.eqv (.tuple R) (.tuple [])) μ :=
      et_test (ev_op (ev_var rfl) (ed_tup ed_nil) (rv_neX (.d _) (.d _) (good_rows hR) (by decide +kernel)))
    refine et_is (et_and0 (b := false) en fun h => ?_) (Bool.and_false _)
    have hne : R ≠ [] := by
      rintro rfl
      exact absurd h (by decide +kernel)
    obtain ⟨z, hz, ez⟩ := cut_last R hne
    have e1 : Ev K (tSl (rSlU K) (tVar 4) (tPart (tUn (rU fun i => .int (-i)) (tC (.int 1)))) tNoPart) (Fr ns (some (.d (.tuple R))) x5 x6 x7 x8 x9 x10) μ (.d (.tuple [z])) μ := by
      have := ev_sl (K := K) (μ := μ) (δ := Fr ns (some (.d (.tuple R))) x5 x6 x7 x8 x9 x10) (te := tVar 4) (ev_var rfl) (tl := tPart (tUn (rU fun i => .int (-i)) (tC (.int 1)))) (lo := some (-1)) (eo_some (ev_un (ev_int (i := 1)) ru_I)) eo_no (rs_tup (xs := R))
      rw [ez] at this
      exact this
    have hm : ∀ y, y ∈ R ++ [z] ↔ y ∈ R := fun y => by
      rw [List.mem_append, List.mem_singleton]
      exact ⟨fun h => h.elim id fun e => e ▸ hz, .inl⟩
    have g2 : ∀ y ∈ R ++ [z], Good y := fun y hy => hR y ((hm y).mp hy)
    refine et_is (et_test (ev_op (are_ev (ev_op (ev_var rfl) e1 (rv_addVT (zz _ (by rw [List.length_singleton]; omega)))) (by rw [List.length_append, List.length_singleton]; omega) g2) ev_bl rv_notB)) ?_
    rw [inOrd_eq (good_isT g2) hRT hm, hid, eqv_no hRT (good_isT g2) fun e => by
      have := congrArg List.length e
      rw [List.length_append, List.length_singleton] at this
      omega]
    rfl
end
end Mine


set_option Elab.async false
set_option linter.all false
set_option maxRecDepth 100000
set_option maxHeartbeats 4000000
namespace Mine
open PySem PySem.Spec PyProof.Rows L2 DL
variable [Wd]

section
variable {K : PySem.W.Frag} {a : Ad} {ns : List Int} {one other : List PyData} {d : Dr} {μ : Mu} {x4 x5 x6 x7 x8 x9 x10 : Option W}
theorem tl_ld {x : PyData} (h : Good x) : PyData.canLay0 (tlD x) = true ∧ (tlD x).depth ≤ 60 := by
  have h1 := h.la
  have h2 := h.dp
  cases h.t with
  | fact r zs g1 g2 g3 =>
    have h1 : (PyData.canLay0 (.str "fact") && (PyData.canLay0 (.str r) && (PyData.canLay0 (.tuple zs) && true))) = true := h1
    have h2 : max 0 (max 0 (max (PyData.depth (.tuple zs)) 0)) + 1 ≤ 8 := h2
    rw [Bool.and_eq_true] at h1
    refine ⟨h1.2, ?_⟩
    show max 0 (max (PyData.depth (.tuple zs)) 0) + 1 ≤ 60
    omega
  | rule t g =>
    have h1 : (PyData.canLay0 (.str "rule") && (PyData.canLay0 (.str t) && true)) = true := h1
    rw [Bool.and_eq_true] at h1
    refine ⟨h1.2, ?_⟩
    show max 0 0 + 1 ≤ 60
    decide
theorem snd_ld {x : PyData} (h : Good x) : PyData.canLay0 (sndD x) = true ∧ (sndD x).depth ≤ 60 := by
  have h1 := h.la
  cases h.t with
  | fact r zs g1 g2 g3 =>
    have h1 : (PyData.canLay0 (.str "fact") && (PyData.canLay0 (.str r) && (PyData.canLay0 (.tuple zs) && true))) = true := h1
    rw [Bool.and_eq_true, Bool.and_eq_true] at h1
    exact ⟨h1.2.1, by show 0 ≤ 60; decide⟩
  | rule t g =>
    have h1 : (PyData.canLay0 (.str "rule") && (PyData.canLay0 (.str t) && true)) = true := h1
    rw [Bool.and_eq_true, Bool.and_eq_true] at h1
    exact ⟨h1.2.1, by show 0 ≤ 60; decide⟩
theorem ne_self {δ : Dl} {ta tb : TE} {x : PyData} {μ1 μ2 : Mu} (ha : Ev K ta δ μ (.d x) μ1) (hb : Ev K tb δ μ1 (.d x) μ2) (h : PyData.canLay0 x = true ∧ SeqAt.shaped x = true) : EvT K (tTest (tOp (rNeA K) ta tb)) δ μ false μ2 := by
  refine et_is (et_test (ev_op ha hb (rv_neX (.d _) (.d _) h.2 h.2))) ?_
  rw [PySem.SeqAt.eqv_refl x h.1]
  rfl
theorem s6 (g : ∀ x ∈ one, Good x) (hl : one.length ≤ 100) :
    EvT K (tOr (tTest (tOp (rNeA K) (tCallS (spOf K 1 phFacts) (WE (fun _ _ _ _ => False)) (tCons (tVar 4) tNil)) (tCB (rTupU K) (tCons (tLc (iSeqW K (tVar 4)) (gName 6) (tTest (tOp (rEqA K) (tOp (rIxU K) (tVar 6) (tC (.int 0))) (tC (.str "fact")))) (tSl (rSlU K) (tVar 6) (tPart (tC (.int 1))) tNoPart) [6]) tNil)))) (tTest (tOp (rNeA K) (tCallS (spOf K 1 phTexts) (WE (fun _ _ _ _ => False)) (tCons (tVar 4) tNil)) (tCB (rTupU K) (tCons (tLc (iSeqW K (tVar 4)) (gName 6) (tTest (tOp (rEqA K) (tOp (rIxU K) (tVar 6) (tC (.int 0))) (tC (.str "rule")))) (tOp (rIxU K) (tVar 6) (tC (.int 1))) [6]) tNil)))))
      (Fr ns (some (.d (.tuple (inOrd one)))) x5 x6 x7 x8 x9 x10) μ false μ := by
  have hR := good_ord g
  have hRT := good_isT hR
  have hll : (inOrd one).length ≤ 1000 := Nat.le_trans inOrd_len (Nat.le_trans hl (by decide))
  refine et_no (μ1 := μ) ?_ ?_
  · refine ne_self (x := .tuple (((inOrd one).filter isF).map tlD)) (ev_call (n := 1) (ea_cons (ev_var rfl) ea_nil) rfl ⟨inOrd one, rfl, hll, hRT, rfl⟩) (ev_cb (ea_cons (facts_walk (by show 6 < 11; decide) (ev_var rfl) hll hRT) ea_nil) (rc_tup (.l (.d _)))) (lay_tup fun y hy => ?_)
    obtain ⟨x, hx, rfl⟩ := List.mem_map.mp hy
    exact tl_ld (hR x (List.mem_filter.mp hx).1)
  · refine ne_self (x := .tuple (((inOrd one).filter isR).map sndD)) (ev_call (n := 1) (ea_cons (ev_var rfl) ea_nil) rfl ⟨inOrd one, rfl, hll, hRT, rfl⟩) (ev_cb (ea_cons (texts_walk (by show 6 < 11; decide) (ev_var rfl) hll hRT) ea_nil) (rc_tup (.l (.d _)))) (lay_tup fun y hy => ?_)
    obtain ⟨x, hx, rfl⟩ := List.mem_map.mp hy
    exact snd_ld (hR x (List.mem_filter.mp hx).1)
theorem only_eq {xs ys : List PyData} (hx : ∀ x ∈ xs, IsT x) (hy : ∀ y ∈ ys, IsT y) : onlyD xs ys = xs.filter fun x => !ys.any fun z => PyData.eqv z x := by
  unfold onlyD
  refine List.filter_congr fun x h => ?_
  congr 1
  rw [Bool.eq_iff_iff]
  have h1 : (lkD (mkD (ys.map fun y => (NestedKey.tup (keyN y), W.b true))) (NestedKey.tup (keyN x))).isSome = true ↔ NestedKey.tup (keyN x) ∈ (mkD (ys.map fun y => (NestedKey.tup (keyN y), W.b true))).map (·.1) := by
    rw [Option.isSome_iff_ne_none]
    have := lkD_none (ks := mkD (ys.map fun y => (NestedKey.tup (keyN y), W.b true))) (k := NestedKey.tup (keyN x))
    constructor
    · intro q
      exact Classical.byContradiction fun z => q (this.mpr z)
    · intro q z
      exact this.mp z q
  rw [h1, mkD_keys, List.map_map, List.mem_map, List.any_eq_true]
  constructor
  · rintro ⟨y, m, e⟩
    exact ⟨y, m, (eqv_isT (hy y m) (hx x h)).mpr (key_inj (hy y m) (hx x h) e)⟩
  · rintro ⟨y, m, e⟩
    exact ⟨y, m, by rw [(eqv_isT (hy y m) (hx x h)).mp e]; rfl⟩
theorem s8 (m : Ms ns one other d μ) (g : ∀ x ∈ one, Good x) (g' : ∀ x ∈ other, Good x) (hl : one.length ≤ 100) (hl' : other.length ≤ 100) : ∃ μ', Ms ns one other d μ' ∧
    EvT K (tOr (tTest (tOp (rNeA K) (tCallS (spOf K 2 phOnly) (WE (fun _ _ _ _ => False)) (tCons (tVar 4) (tCons (tVar 5) tNil))) (tCB (rTupU K) (tCons (tLc (iSeqW K (tVar 4)) (gName 6) (tTest (tOp (rNiU K) (tVar 6) (tVar 5))) (tVar 6) [6]) tNil)))) (tTest (tOp (rNeA K) (tCallS (spOf K 2 phTogether) (WE (fun _ _ _ _ => False)) (tCons (tVar 4) (tCons (tVar 5) tNil))) (tCallS (spOf K 1 phOrdered) (WE (fun _ _ _ _ => False)) (tCons (tOp (rAddV K) (tVar 2) (tVar 3)) tNil)))))
      (Fr ns (some (.d (.tuple (inOrd one)))) (some (.d (.tuple (inOrd other)))) x6 x7 x8 x9 x10) μ false μ' := by
  have hT := good_isT g
  have hT' := good_isT g'
  have hR := good_ord g
  have hRT := good_isT hR
  have hM := good_ord g'
  have hMT := good_isT hM
  have hll : (inOrd one).length ≤ 100 := Nat.le_trans inOrd_len hl
  have hll' : (inOrd other).length ≤ 100 := Nat.le_trans inOrd_len hl'
  have hb : ∀ x ∈ one ++ other, Good x := fun x hx => (List.mem_append.mp hx).elim (g x) (g' x)
  have hB : ∀ x ∈ inOrd one ++ inOrd other, Good x := fun x hx => (List.mem_append.mp hx).elim (hR x) (hM x)
  have eO : inOrd (inOrd one ++ inOrd other) = inOrd (one ++ other) := inOrd_eq (good_isT hB) (good_isT hb) fun z => by rw [List.mem_append, List.mem_append, inOrd_mem hT, inOrd_mem hT']
  refine ⟨_, m.app (ys := [Cell.lst (one.map W.d ++ other.map W.d)]), et_no (μ1 := μ) ?_ ?_⟩
  · have hzz : ((inOrd one).map W.d).length ≤ sizeLine := by rw [List.length_map]; exact Nat.le_trans hll (by decide)
    have lc := ev_lcF (K := K) (μ := μ) (δ := Fr ns (some (.d (.tuple (inOrd one)))) (some (.d (.tuple (inOrd other)))) x6 x7 x8 x9 x10) (wi := iSeqW K (tVar 4)) (tt := tTest (tOp (rNiU K) (tVar 6) (tVar 5))) (te := tVar 6) (g := gName 6) (vs := [6])
      (f := unD) (p := fun w => !(inOrd other).any fun z => PyData.eqv z (unD w)) (ei_wT (ev_var rfl)) mg_name (tg_name (by decide)) hzz trivial (fun i w hw => by
        rw [List.getElem?_map] at hw
        obtain ⟨z, hz, rfl⟩ := Option.map_eq_some_iff.mp hw
        have hz := List.mem_of_getElem? hz
        exact ⟨_, eg_name, et_test (ev_op (ev_var rfl) (ev_var rfl) (rv_niT (by unfold SeqAt.shaped; rw [Bool.and_eq_true]; exact ⟨(hR z hz).la, decide_eq_true (Nat.le_trans (hR z hz).dp (by decide))⟩) (good_rows hM))), fun _ => ev_var rfl⟩)
    have e1 : (((inOrd one).map W.d).filter fun w => !(inOrd other).any fun z => PyData.eqv z (unD w)).map unD = onlyD (inOrd one) (inOrd other) := by
      rw [only_eq hRT hMT]
      exact (unD_map (inOrd one) (fun x => !(inOrd other).any fun z => PyData.eqv z x) id).trans (List.map_id _)
    rw [e1] at lc
    refine ne_self (x := .tuple (onlyD (inOrd one) (inOrd other))) (ev_call (n := 2) (ea_cons (ev_var rfl) (ea_cons (ev_var rfl) ea_nil)) rfl ⟨inOrd one, inOrd other, rfl, by omega, by omega, hRT, hMT, rfl⟩) (ev_cb (ea_cons lc ea_nil) (rc_tup (.l (.d _)))) (lay_tup fun y hy => ?_)
    exact (hR y (List.mem_filter.mp (show y ∈ (inOrd one).filter _ from hy)).1).ld
  · refine ne_self (x := .tuple (inOrd (one ++ other))) (μ1 := μ) ?_ ?_ (lay_tup fun y hy => (good_ord hb y hy).ld)
    · rw [← eO]
      exact ev_call (n := 2) (ea_cons (ev_var rfl) (ea_cons (ev_var rfl) ea_nil)) rfl ⟨inOrd one, inOrd other, rfl, by omega, fun x hx => ⟨(hB x hx).ni, (hB x hx).th⟩, rfl⟩
    · exact ev_call (n := 1) (ea_cons (ev_op (ev_var rfl) (ev_var rfl) (rv_addVL m.c1 m.c2 (by simp only [List.length_map]; exact Nat.le_trans (show _ ≤ 200 by omega) (by decide)))) ea_nil) rfl ⟨_, one ++ other, rfl, .l (.p (by rw [List.map_append]; exact gL)), by rw [List.length_append]; omega, good_isT hb, rfl⟩
end
end Mine


set_option Elab.async false
set_option linter.all false
set_option maxRecDepth 100000
set_option maxHeartbeats 4000000
namespace Mine
open PySem PySem.Spec PyProof.Rows L2 DL
variable [Wd]

section
variable {K : PySem.W.Frag} {a : Ad} {ns : List Int} {one other : List PyData} {d : Dr} {μ : Mu} {x4 x5 x6 x7 x8 x9 x10 : Option W}
theorem sh_good {x : PyData} (h : Good x) : PyData.canLay0 x = true ∧ SeqAt.shaped x = true := by
  refine ⟨h.la, ?_⟩
  unfold SeqAt.shaped
  rw [Bool.and_eq_true]
  exact ⟨h.la, decide_eq_true (Nat.le_trans h.dp (by decide))⟩
/-- a thing of the loop: made again, told, written -/
theorem turn_ev {δ : Dl} {x : PyData} (h : Good x) (hδ : δ[6]? = some (some (.d x))) : Ev K (tIf (tTest (tOp (rEqA K) (tOp (rIxU K) (tVar 6) (tC (.int 0))) (tC (.str "fact")))) (tCallS (spOf K 2 (phMkFact a)) (WE (fun _ _ _ _ => False)) (tCons (tOp (rIxU K) (tVar 6) (tC (.int 1))) (tCons (tCB (rLstU K) (tCons (tOp (rIxU K) (tVar 6) (tC (.int 2))) tNil)) tNil))) (tCallS (spOf K 1 (phMkRule a)) (WE (fun _ _ _ _ => False)) (tCons (tOp (rIxU K) (tVar 6) (tC (.int 1))) tNil))) δ μ (.d x) μ := by
  have ev : Ev K (tVar 6) δ μ (.d x) μ := ev_var hδ
  have hth := h.th
  have hni := h.ni
  cases h.t with
  | fact r zs g1 g2 g3 =>
    refine ev_if (a := true) (et_is (et_test (ev_op (e_at 0 ev rfl) ev_str (rv_eqX (.d _) (.d _) sh_fact sh_fact))) ff) (fun _ => ?_) fun h => nomatch h
    exact ev_call (n := 2) (ea_cons (e_at 1 ev rfl) (ea_cons (ev_cb (ea_cons (e_at 2 ev rfl) ea_nil) (rc_lstD (.t zs))) ea_nil)) rfl ⟨.str r, .list zs, zs, rfl, .inl rfl, hni, by omega, .inr ⟨hth, rfl⟩⟩
  | rule t g =>
    refine ev_if (a := false) (et_is (et_test (ev_op (e_at 0 ev rfl) ev_str (rv_eqX (.d _) (.d _) sh_rule sh_fact))) rf) (fun h => nomatch h) fun _ => ?_
    have g' := g
    unfold isRuleS at g'
    simp only [Bool.and_eq_true, decide_eq_true_eq] at g'
    exact ev_call (n := 1) (ea_cons (e_at 1 ev rfl) ea_nil) rfl ⟨.str t, rfl, (fun s e => by cases e; omega), .inr ⟨g, rfl⟩⟩
theorem isF_fact {x : PyData} (h : Good x) : isFactT x = isF x := by
  have hth := h.th
  cases h.t with
  | fact r zs g1 g2 g3 =>
    have e : isThing (.tuple [.str "fact", .str r, .tuple zs]) = (isFactT (.tuple [.str "fact", .str r, .tuple zs]) || false) := rfl
    rw [e, Bool.or_false] at hth
    rw [hth]
    exact ff.symm
  | rule t g => exact rf.symm
theorem isF_ev {δ : Dl} {x : PyData} (h : Good x) (hδ : δ[6]? = some (some (.d x))) : Ev K (tOp (rEqA K) (tOp (rIxU K) (tVar 6) (tC (.int 0))) (tC (.str "fact"))) δ μ (.b (isF x)) μ := by
  have ev : Ev K (tVar 6) δ μ (.d x) μ := ev_var hδ
  cases h.t with
  | fact r zs g1 g2 g3 => exact ev_op (e_at 0 ev rfl) ev_str (rv_eqX (.d _) (.d _) sh_fact sh_fact)
  | rule t g => exact ev_op (e_at 0 ev rfl) ev_str (rv_eqX (.d _) (.d _) sh_rule sh_fact)
theorem ne_str {δ : Dl} {ta tb : TE} {s : Str} {μ1 μ2 : Mu} (ha : Ev K ta δ μ (.s s) μ1) (hb : Ev K tb δ μ1 (.s s) μ2) (h : SeqAt.shaped (.str s) = true) : EvT K (tTest (tOp (rNeA K) ta tb)) δ μ false μ2 := by
  refine et_is (et_test (ev_op ha hb (rv_neX (.d _) (.d _) h h))) ?_
  have : PyData.eqv (.str s) (.str s) = true := eqv_sT.mpr rfl
  rw [this]
  rfl
theorem sh_tf (b : Bool) : SeqAt.shaped (.str (if b then "True" else "False")) = true := by cases b <;> decide +kernel
/-- the loop over the rows -/
theorem s9 {O : SO → Prop} {R : List PyData} (g : ∀ x ∈ R, Good x) (hl : R.length ≤ 1000) (hO : ∀ y6 y8, O (.nx (Fr ns (some (.d (.tuple R))) x5 y6 x7 y8 x9 x10) μ)) :
    St K (fun _ _ _ _ => False) (tFor (iSeqW K (tVar 4)) (gName 6) (tSeq (tAsg (tIf (tTest (tOp (rEqA K) (tOp (rIxU K) (tVar 6) (tC (.int 0))) (tC (.str "fact")))) (tCallS (spOf K 2 (phMkFact a)) (WE (fun _ _ _ _ => False)) (tCons (tOp (rIxU K) (tVar 6) (tC (.int 1))) (tCons (tCB (rLstU K) (tCons (tOp (rIxU K) (tVar 6) (tC (.int 2))) tNil)) tNil))) (tCallS (spOf K 1 (phMkRule a)) (WE (fun _ _ _ _ => False)) (tCons (tOp (rIxU K) (tVar 6) (tC (.int 1))) tNil))) (gName 8)) (tIfS (tOr (tTest (tOp (rNeA K) (tVar 8) (tVar 6))) (tOr (tTest (tOp rNotB (tCallS (spOf K 1 phThing) (WE (fun _ _ _ _ => False)) (tCons (tVar 6) tNil)) (tC (.bl true)))) (tOr (tTest (tOp (rNeA K) (tCallS (spOf K 1 (phLineOf a)) (WE (fun _ _ _ _ => False)) (tCons (tVar 6) tNil)) (tCallS (spOf K 1 phLine) (WE (fun _ _ _ _ => False)) (tCons (tVar 6) tNil)))) (tTest (tOp (rNeA K) (tCB rRepr (tCons (tCallS (spOf K 1 phFactT) (WE (fun _ _ _ _ => False)) (tCons (tVar 6) tNil)) tNil)) (tCB rRepr (tCons (tOp (rEqA K) (tOp (rIxU K) (tVar 6) (tC (.int 0))) (tC (.str "fact"))) tNil))))))) (tRet (tC (.bl false))) tNext)))
      (Fr ns (some (.d (.tuple R))) x5 x6 x7 x8 x9 x10) μ O := by
  refine st_for (ei_wT (xs := R) (ev_var rfl)) (fun i δ μi => (∃ y6 y8, δ = Fr ns (some (.d (.tuple R))) x5 y6 x7 y8 x9 x10) ∧ μi = μ) ⟨⟨_, _, rfl⟩, rfl⟩ (fun _ _ _ _ => trivial) ?_ ?_
  · rintro i w δi μi hw ⟨⟨y6, y8, rfl⟩, rfl⟩
    rw [List.getElem?_map] at hw
    obtain ⟨x, hx, rfl⟩ := Option.map_eq_some_iff.mp hw
    have h := g x (List.mem_of_getElem? hx)
    refine ⟨_, _, eg_name, ?_⟩
    dsimp only [List.set_cons_zero, List.set_cons_succ]
    refine st_seq (st_set (turn_ev h rfl) ?_)
    show St _ _ _ _ _ _
    dsimp only [List.set_cons_zero, List.set_cons_succ]
    refine st_ifF (μ1 := μi) (et_no (μ1 := μi) (ne_self (ev_var rfl) (ev_var rfl) (sh_good h)) (et_no (μ1 := μi) ?_ (et_no (μ1 := μi) ?_ ?_))) (st_next ⟨⟨_, _, rfl⟩, rfl⟩)
    · refine et_is (et_test (ev_op (ev_call (n := 1) (w := .b (isThing x)) (ea_cons (ev_var rfl) ea_nil) rfl ⟨x, rfl, h.ni, rfl⟩) ev_bl rv_notB)) ?_
      rw [h.th]; rfl
    · exact ne_str (μ1 := μi) (ev_call (n := 1) (ea_cons (ev_var rfl) ea_nil) rfl ⟨x, rfl, h.ni, .inr ⟨h.th, h.li, rfl⟩⟩) (ev_call (n := 1) (ea_cons (ev_var rfl) ea_nil) rfl ⟨x, rfl, h.t, h.li, rfl⟩) h.ls
    · refine ne_str (μ1 := μi) (s := if isF x then "True" else "False") ?_ (ev_cb (ea_cons (isF_ev h rfl) ea_nil) rc_reprB) (sh_tf _)
      rw [← isF_fact h]
      exact ev_cb (ea_cons (ev_call (n := 1) (w := .b (isFactT x)) (ea_cons (ev_var rfl) ea_nil) rfl ⟨x, rfl, h.ni, rfl⟩) ea_nil) rc_reprB
  · rintro δi μi ⟨⟨y6, y8, rfl⟩, rfl⟩
    exact hO y6 y8
end
end Mine


set_option Elab.async false
set_option linter.all false
set_option maxRecDepth 100000
set_option maxHeartbeats 4000000
namespace Mine
open PySem PySem.Spec PyProof.Rows L2 DL
variable [Wd]

section
variable {K : PySem.W.Frag} {a : Ad} {ns : List Int} {one other : List PyData} {d : Dr} {μ : Mu} {x4 x5 x6 x7 x8 x9 x10 : Option W}
abbrev kdD (x : PyData) : PyData := NestedKey.data (.tup (keyN x))
theorem leD_total : PySem.W.TotalLe (fun p q : PyData => PySem.W.dataLe false id p q) := PySem.W.sortLe_total (PyProof.Rows.listOrd PyProof.Rows.itemOrd) false fun p : PyData => PySem.W.keyToks p
theorem leD_anti {a b : PyData} (h1 : PySem.W.dataLe false id a b = true) (h2 : PySem.W.dataLe false id b a = true) : PySem.W.keyToks a = PySem.W.keyToks b := by
  have g1 : (!(PyProof.Rows.listOrd PyProof.Rows.itemOrd).blt (PySem.W.keyToks b) (PySem.W.keyToks a)) = true := h1
  have g2 : (!(PyProof.Rows.listOrd PyProof.Rows.itemOrd).blt (PySem.W.keyToks a) (PySem.W.keyToks b)) = true := h2
  rw [Bool.not_eq_true'] at g1 g2
  exact (PyProof.Rows.listOrd PyProof.Rows.itemOrd).total _ _ g2 g1
/-- the keys of rows in order are in order -/
theorem keys_sorted {xs : List PyData} (hx : ∀ x ∈ xs, IsT x) : (inOrd xs).map kdD = sortD ((mkD (xs.map keyP)).map fun p => p.1.data) := by
  rw [sortP_keys]
  unfold inOrd inP
  rw [List.map_map]
  refine List.map_congr_left fun p hp => ?_
  obtain ⟨x, h1, rfl⟩ := (mkD_key hx).mp (sortP_mem.mp hp)
  rfl
theorem keys_again {xs ys : List PyData} (hx : ∀ x ∈ xs, IsT x) (p : ys.Perm (inOrd xs)) : sortD (ys.map kdD) = (inOrd xs).map kdD := by
  have hR := inOrd_isT hx
  have hy : ∀ y ∈ ys, IsT y := fun y h => hR y (p.mem_iff.mp h)
  refine eq_of_pw (PySem.W.sort_pairwise leD_total _) ?_ ((List.mergeSort_perm _ _).trans (p.map kdD)) fun a ha b hb h1 h2 => ?_
  · rw [keys_sorted hx]
    exact PySem.W.sort_pairwise leD_total _
  · obtain ⟨x, m1, rfl⟩ := List.mem_map.mp ((List.mergeSort_perm _ _).mem_iff.mp ha)
    obtain ⟨y, m2, rfl⟩ := List.mem_map.mp ((List.mergeSort_perm _ _).mem_iff.mp hb)
    rw [key_toks (hy x m1) (hy y m2) (leD_anti h1 h2)]
theorem key_call {δ : Dl} {te : TE} {x : PyData} (e : Ev K te δ μ (.d x) μ) (h : IsT x) : Ev K (tCallS (spOf K 1 phKey) (WE (fun _ _ _ _ => False)) (tCons te tNil)) δ μ (.d (kdD x)) μ := ev_call (n := 1) (ea_cons e ea_nil) rfl ⟨x, rfl, h, rfl⟩
theorem s10 (m : Ms ns one other d μ) (g : ∀ x ∈ one, Good x) (hl : one.length ≤ 100) : ∃ d' μ', Ms ns one other d' μ' ∧
    EvT K (tTest (tOp (rNeA K) (tLc (iSeqW K (tVar 4)) (gName 6) tYes (tCallS (spOf K 1 phKey) (WE (fun _ _ _ _ => False)) (tCons (tVar 6) tNil)) [6]) (tCB (rSortU K) (tCons (tLc (iSeqW K (tCallS (spOf K 2 phShuf) (WE (fun _ _ _ _ => False)) (tCons (tVar 1) (tCons (tCB (rLstU K) (tCons (tVar 4) tNil)) tNil)))) (gName 6) tYes (tCallS (spOf K 1 phKey) (WE (fun _ _ _ _ => False)) (tCons (tVar 6) tNil)) [6]) tNil))))
      (Fr ns (some (.d (.tuple (inOrd one)))) x5 x6 x7 x8 x9 x10) μ false μ' := by
  have hT := good_isT g
  have hR := good_ord g
  have hRT := good_isT hR
  have hll : (inOrd one).length ≤ 1000 := Nat.le_trans inOrd_len (Nat.le_trans hl (by decide))
  obtain ⟨p1, p2, p3⟩ := sh_end (ns := ns) (d := d) (xs := inOrd one)
  have hA : ∀ x ∈ (shEnd ns d (inOrd one)).acc, IsT x := fun x hx => hRT x (p2.mem_iff.mp hx)
  have hzz : ((inOrd one).map W.d).length ≤ sizeLine := by rw [List.length_map]; exact Nat.le_trans hll (by decide)
  have hzz2 : ((shEnd ns d (inOrd one)).acc.map W.d).length ≤ sizeLine := by rw [List.length_map, p1]; exact Nat.le_trans hll (by decide)
  refine ⟨_, _, m.sh (inOrd one), ?_⟩
  have lc1 : Ev K (tLc (iSeqW K (tVar 4)) (gName 6) tYes (tCallS (spOf K 1 phKey) (WE (fun _ _ _ _ => False)) (tCons (tVar 6) tNil)) [6]) (Fr ns (some (.d (.tuple (inOrd one)))) x5 x6 x7 x8 x9 x10) μ (.d (.list ((inOrd one).map kdD))) μ := by
    have := ev_lcM (K := K) (δ := Fr ns (some (.d (.tuple (inOrd one)))) x5 x6 x7 x8 x9 x10) (μ := μ) (f := fun w => kdD (unD w)) (te := tCallS (spOf K 1 phKey) (WE (fun _ _ _ _ => False)) (tCons (tVar 6) tNil)) (tt := tYes) (g := gName 6) (vs := [6]) (ei_wT (xs := inOrd one) (ev_var (i := 4) rfl)) mg_name (tg_name (by decide)) hzz trivial (fun i w hw => by
      rw [List.getElem?_map] at hw
      obtain ⟨x, hx, rfl⟩ := Option.map_eq_some_iff.mp hw
      exact ⟨_, eg_name, et_nil, key_call (ev_var rfl) (hRT x (List.mem_of_getElem? hx))⟩)
    rw [List.map_map] at this
    exact this
  have sq := shuf_seq (ns := ns) (d := d) (μ := μ) (xs := inOrd one)
  have es := shuf_ev (K := K) (δ := Fr ns (some (.d (.tuple (inOrd one)))) x5 x6 x7 x8 x9 x10) (xs := inOrd one) rfl (ev_cb (ea_cons (ev_var (i := 4) rfl) ea_nil) (rc_lstD (.t _))) m (.l (.d _)) hll
  have lc2 : Ev K (tLc (iSeqW K (tCallS (spOf K 2 phShuf) (WE (fun _ _ _ _ => False)) (tCons (tVar 1) (tCons (tCB (rLstU K) (tCons (tVar 4) tNil)) tNil)))) (gName 6) tYes (tCallS (spOf K 1 phKey) (WE (fun _ _ _ _ => False)) (tCons (tVar 6) tNil)) [6]) (Fr ns (some (.d (.tuple (inOrd one)))) x5 x6 x7 x8 x9 x10) μ (.d (.list ((shEnd ns d (inOrd one)).acc.map kdD))) (shM μ 0 ns (shEnd ns d (inOrd one))) := by
    cases sq with
    | l h =>
      cases h with
      | p e =>
        have := ev_lcM (K := K) (δ := Fr ns (some (.d (.tuple (inOrd one)))) x5 x6 x7 x8 x9 x10) (μ := μ) (f := fun w => kdD (unD w)) (te := tCallS (spOf K 1 phKey) (WE (fun _ _ _ _ => False)) (tCons (tVar 6) tNil)) (tt := tYes) (g := gName 6) (vs := [6]) (ei_wL es (.p e)) mg_name (tg_name (by decide)) hzz2 e (fun i w hw => by
          rw [List.getElem?_map] at hw
          obtain ⟨x, hx, rfl⟩ := Option.map_eq_some_iff.mp hw
          exact ⟨_, eg_name, et_nil, key_call (ev_var rfl) (hA x (List.mem_of_getElem? hx))⟩)
        rw [List.map_map] at this
        exact this
  have ok : SortOk ((shEnd ns d (inOrd one)).acc.map kdD) := by
    have := sort_ok (ks := (shEnd ns d (inOrd one)).acc.map keyP) fun p hp => by
      obtain ⟨x, hx, rfl⟩ := List.mem_map.mp hp
      exact ⟨x, hA x hx, rfl⟩
    rw [List.map_map] at this
    exact this
  refine ne_self (x := .list ((inOrd one).map kdD)) (μ1 := μ) lc1 ?_ (lay_lst fun y hy => ?_)
  · rw [← keys_again hT p2]
    exact ev_cb (ea_cons lc2 ea_nil) (rc_sortL (.d _) ok)
  · obtain ⟨x, hx, rfl⟩ := List.mem_map.mp hy
    exact ⟨(hR x hx).kl, Nat.le_trans (key_dep (hRT x hx)) (by decide)⟩
/-! what is no thing -/
def bads : List PyData := [.int 5, .tuple [.str "fact", .str "edge", .list [.int 1]], .tuple [.str "fact", .str "edge", .tuple [.none]], .tuple [.str "fact", .str "9a", .tuple []], .tuple [.str "rule"], .tuple [.str "rule", .str (repS "a" 401)], .tuple [.str "rule", .str "a\nb"], .tuple [.str "fact", .str "edge", .tuple (List.replicate (7 : Int).toNat [PyData.int 1]).flatten]]
theorem bads_no : ∀ x ∈ bads, isThing x = false ∧ Nice x := fun x hx => by
  have h : bads.all (fun x => !isThing x && niceB x) = true := by decide +kernel
  have := List.all_eq_true.mp h x hx
  rw [Bool.and_eq_true, Bool.not_eq_true'] at this
  exact ⟨this.1, nice_of this.2⟩
theorem rule_yes : isRule (.str (repS "a" 400)) = true := by decide +kernel
end
end Mine


set_option Elab.async false
set_option linter.all false
set_option maxRecDepth 100000
set_option maxHeartbeats 4000000
namespace Mine
open PySem PySem.Spec PyProof.Rows L2 DL
variable [Wd]

section
variable {K : PySem.W.Frag} {a : Ad} {ns : List Int} {one other : List PyData} {d : Dr} {μ : Mu} {x4 x5 x6 x7 x8 x9 x10 : Option W} {δ : Dl}
theorem s11 : Ev K (tLst (tCons (tC (.int 5)) (tCons (tTup (tCons (tC (.str "fact")) (tCons (tC (.str "edge")) (tCons (tLst (tCons (tC (.int 1)) tNil)) tNil)))) (tCons (tTup (tCons (tC (.str "fact")) (tCons (tC (.str "edge")) (tCons (tTup (tCons (tC .non) tNil)) tNil)))) (tCons (tTup (tCons (tC (.str "fact")) (tCons (tC (.str "9a")) (tCons (tTup tNil) tNil)))) (tCons (tTup (tCons (tC (.str "rule")) tNil)) (tCons (tTup (tCons (tC (.str "rule")) (tCons (tOp (rMulV K) (tC (.str "a")) (tC (.int 401))) tNil))) (tCons (tTup (tCons (tC (.str "rule")) (tCons (tC (.str "a\nb")) tNil))) (tCons (tTup (tCons (tC (.str "fact")) (tCons (tC (.str "edge")) (tCons (tOp (rMulV K) (tTup (tCons (tC (.int 1)) tNil)) (tC (.int 7))) tNil)))) tNil))))))))) δ μ (.d (.list bads)) μ :=
  ev_lstD (xs := bads) (ea_cons ev_int (ea_cons (ed_tup (ed_3 ev_str ev_str (ev_lstD (xs := [.int 1]) (ea_cons ev_int ea_nil) rfl (by show 1 ≤ sizeLine; decide)))) (ea_cons (ed_tup (ed_3 ev_str ev_str (ed_tup (ed_1 ev_non)))) (ea_cons (ed_tup (ed_3 ev_str ev_str (ed_tup ed_nil))) (ea_cons (ed_tup (ed_1 ev_str))
    (ea_cons (ed_tup (ed_2 ev_str (ev_op ev_str ev_int (rv_mulVS (by decide) (by decide) (by decide +kernel) (by decide +kernel))))) (ea_cons (ed_tup (ed_2 ev_str ev_str)) (ea_cons (ed_tup (ed_3 ev_str ev_str (ev_op (ed_tup (ed_1 ev_int)) ev_int (rv_mulVT (by simp) (by decide) (by decide) (by decide))))) ea_nil)))))))) rfl (by show 8 ≤ sizeLine; decide)
theorem s12 : EvT K (tOr (tTest (tOp (rGtU K) (tCB (rLenU K) (tCons (tLc (iSeqW K (tVar 7)) (gName 10) (tTest (tOp rNotB (tCallS (spOf K 1 phThing) (WE (fun _ _ _ _ => False)) (tCons (tVar 10) tNil)) (tC (.bl false)))) (tVar 10) [10]) tNil)) (tC (.int 0)))) (tOr (tTest (tOp rNotB (tCallS (spOf K 1 phRule) (WE (fun _ _ _ _ => False)) (tCons (tOp (rMulV K) (tC (.str "a")) (tC (.int 400))) tNil)) (tC (.bl true)))) (tTest (tOp rNotB (tCallS (spOf K 1 phRule) (WE (fun _ _ _ _ => False)) (tCons (tC (.int 5)) tNil)) (tC (.bl false))))))
      (Fr ns x4 x5 x6 (some (.d (.list bads))) x8 x9 x10) μ false μ := by
  have lc := ev_lcF (K := K) (μ := μ) (δ := Fr ns x4 x5 x6 (some (.d (.list bads))) x8 x9 x10) (wi := iSeqW K (tVar 7)) (tt := tTest (tOp rNotB (tCallS (spOf K 1 phThing) (WE (fun _ _ _ _ => False)) (tCons (tVar 10) tNil)) (tC (.bl false)))) (te := tVar 10) (g := gName 10) (vs := [10])
    (f := unD) (p := fun w => !decide (isThing (unD w) = false)) (ei_wL (ev_var rfl) (.d bads)) mg_name (tg_name (by decide)) (by rw [List.length_map]; show 8 ≤ sizeLine; decide) trivial (fun i w hw => by
      rw [List.getElem?_map] at hw
      obtain ⟨z, hz, rfl⟩ := Option.map_eq_some_iff.mp hw
      exact ⟨_, eg_name, et_test (ev_op (ev_call (n := 1) (w := .b (isThing z)) (ea_cons (ev_var rfl) ea_nil) rfl ⟨z, rfl, (bads_no z (List.mem_of_getElem? hz)).2, rfl⟩) ev_bl rv_notB), fun _ => ev_var rfl⟩)
  have e0 : (bads.map W.d).filter (fun w => !decide (isThing (unD w) = false)) = [] := by
    rw [List.filter_eq_nil_iff]
    intro w hw
    obtain ⟨x, hx, rfl⟩ := List.mem_map.mp hw
    show ¬ (!decide (isThing x = false)) = true
    rw [(bads_no x hx).1]; simp
  rw [e0] at lc
  refine et_no (μ1 := μ) ?_ (et_no (μ1 := μ) ?_ ?_)
  · exact et_is (et_test (ev_op (ev_cb (ea_cons lc ea_nil) (rc_len (.l (.d [])))) ev_int rv_gtV)) rfl
  · refine et_is (et_test (ev_op (ev_call (n := 1) (w := .b (isRule (.str (repS "a" 400)))) (ea_cons (ev_op ev_str ev_int (rv_mulVS (by decide) (by decide) (by decide +kernel) (by decide +kernel))) ea_nil) rfl ⟨.str (repS "a" 400), rfl, (fun s e => by cases e; decide +kernel), rfl⟩) ev_bl rv_notB)) ?_
    rw [rule_yes]; rfl
  · exact et_is (et_test (ev_op (ev_call (n := 1) (w := .b false) (ea_cons ev_int ea_nil) rfl ⟨.int 5, rfl, (fun s e => nomatch e), rfl⟩) ev_bl rv_notB)) rfl
end
end Mine


set_option Elab.async false
set_option linter.all false
set_option maxRecDepth 100000
set_option maxHeartbeats 4000000
namespace Mine
open PySem PySem.Spec PyProof.Rows L2 DL
variable [Wd]

theorem ok_law {K : PySem.W.Frag} {mg : Str → Option Value} {base : Heap} {a : Ad} (T : Txt K mg a) : FnOk Wd.P Wd.w K mg base CX0 7 a.f_law a.d_law ["script"] (spLaw K) := by
  refine T.f_law.ok sc_law (fun vs H Q E h => ?_) (fun cdv A outer s H vs Q E hr h => ?_)
  · obtain ⟨_, _, rfl, _⟩ := h
    rfl
  have hu : (A.deeper (envOfC "law" (defScope s_law) s.heap.objs.size a.f_law cdv)).units + 64 < cLine := hr.units
  have hu5 := room65 hr
  refine ⟨_, (pss_cons (ps_set (i := 1) sc_law.nd rfl (Or.inr rfl) (pe_lst (pa_cons (pv 0) (pa_cons pe_int (pa_cons pe_int pa_nil)))))
    (pss_cons (ps_setLc (i := 2) rfl sc_law.nd rfl rfl (sw_true rfl rfl rfl (by decide +kernel)) (own := [("k", 9)]) (g := (gName 9)) (tt := tYes) (te := (tCallS (spOf K 1 phAThing) (WE (fun _ _ _ _ => False)) (tCons (tVar 1) tNil))) (by exact (pi_range1 rfl T.z_range (pa_cons (by exact (pe_callU (ok_law_next T) (hr.mono (by decide)) rfl T.g__law_next T.f_law_next.kp T.b_law_next takes0 (by exact (pa_cons (pv 1) (pa_cons pe_int pa_nil))))) pa_nil))) (blkOk_by (own := [("k", 9)]) (N := ["script", "state", "one", "other", "rows", "more", "thing", "bad", "made", "k", "value"]) (sc := defScope s_law) (by decide +kernel)) (fun _ _ _ _ _ => by exact (pg_name (i := 9) sc_law.nd rfl (Or.inl rfl))) (fun _ _ _ _ _ => by exact pts_nil) (fun _ _ _ _ _ => by exact (by exact (pe_callU (ok_law_thing T) (hr.mono (by decide)) rfl T.g__law_thing T.f_law_thing.kp T.b_law_thing takes0 (by exact (pa_cons (pv 1) pa_nil))))))
    (pss_cons (ps_setLc (i := 3) rfl sc_law.nd rfl rfl (sw_true rfl rfl rfl (by decide +kernel)) (own := [("k", 9)]) (g := (gName 9)) (tt := tYes) (te := (tCallS (spOf K 1 phAThing) (WE (fun _ _ _ _ => False)) (tCons (tVar 1) tNil))) (by exact (pi_range1 rfl T.z_range (pa_cons (by exact (pe_callU (ok_law_next T) (hr.mono (by decide)) rfl T.g__law_next T.f_law_next.kp T.b_law_next takes0 (by exact (pa_cons (pv 1) (pa_cons pe_int pa_nil))))) pa_nil))) (blkOk_by (own := [("k", 9)]) (N := ["script", "state", "one", "other", "rows", "more", "thing", "bad", "made", "k", "value"]) (sc := defScope s_law) (by decide +kernel)) (fun _ _ _ _ _ => by exact (pg_name (i := 9) sc_law.nd rfl (Or.inl rfl))) (fun _ _ _ _ _ => by exact pts_nil) (fun _ _ _ _ _ => by exact (by exact (pe_callU (ok_law_thing T) (hr.mono (by decide)) rfl T.g__law_thing T.f_law_thing.kp T.b_law_thing takes0 (by exact (pa_cons (pv 1) pa_nil))))))
    (pss_cons (ps_set (i := 4) sc_law.nd rfl (Or.inl rfl) (by exact (pe_callU (ok_law_ordered T) (hr.mono (by decide)) rfl T.g__law_ordered T.f_law_ordered.kp T.b_law_ordered takes0 (by exact (pa_cons (pv 2) pa_nil)))))
    (pss_cons (ps_if (PW.pt (pw_or (pt_cmpR (op_neU hu) (by exact (pe_callU (ok_in_order T) (hr.mono (by decide)) rfl T.g_in_order T.f_in_order.kp T.b_in_order takes0 (by exact (pa_cons (by exact (pe_callU (ok_law_shuffled T) (hr.mono (by decide)) rfl T.g__law_shuffled T.f_law_shuffled.kp T.b_law_shuffled takes0 (by exact (pa_cons (pv 1) (pa_cons (pe_op op_addV (pv 2) (pv 2)) pa_nil))))) pa_nil)))) (pv 4) (nomark _)) (pw_or (pt_cmpR op_isnU (by exact (pe_callU (ok_are_things T) (hr.mono (by decide)) rfl T.g_are_things T.f_are_things.kp T.b_are_things takes0 (by exact (pa_cons (pv 4) pa_nil)))) pe_bl (nomark _)) (pw_or1 (pt_cmpR op_isnU (by exact (pe_callU (ok_are_things T) (hr.mono (by decide)) rfl T.g_are_things T.f_are_things.kp T.b_are_things takes0 (by exact (pa_cons (pe_callTy call_lstU rfl T.z_list (by decide +kernel) (pa_cons (pv 4) pa_nil)) pa_nil)))) pe_bl (nomark _)))))) (pss_one (ps_ret pe_bl)) pss_nil)
    (pss_cons (ps_if (PW.pt (pw_or (PW.pt (pw_and (pt_cmpR (op_gtV hu) (pe_callB call_lenU rfl T.z_len (by decide +kernel) (pa_cons (pv 4) pa_nil)) pe_int (nomark _)) (pw_and1 (pt_cmpR op_isnU (by exact (pe_callU (ok_are_things T) (hr.mono (by decide)) rfl T.g_are_things T.f_are_things.kp T.b_are_things takes0 (by exact (pa_cons (pe_op op_addV (pe_slice sl_U (pv 4) (po_some pe_int) po_none) (pe_slice sl_U (pv 4) po_none (po_some pe_int))) pa_nil)))) pe_bl (nomark _))))) (pw_or1 (PW.pt (pw_and (pt_cmpR (op_neU hu) (pv 4) (pe_tup pa_nil) (nomark _)) (pw_and1 (pt_cmpR op_isnU (by exact (pe_callU (ok_are_things T) (hr.mono (by decide)) rfl T.g_are_things T.f_are_things.kp T.b_are_things takes0 (by exact (pa_cons (pe_op op_addV (pv 4) (pe_slice sl_U (pv 4) (po_some (pe_un un_neg pe_int)) po_none)) pa_nil)))) pe_bl (nomark _)))))))) (pss_one (ps_ret pe_bl)) pss_nil)
    (pss_cons (ps_if (PW.pt (pw_or (pt_cmpR (op_neU hu) (by exact (pe_callU (ok_facts_among T) (hr.mono (by decide)) rfl T.g_facts_among T.f_facts_among.kp T.b_facts_among takes0 (by exact (pa_cons (pv 4) pa_nil)))) (pe_callTy call_tupU rfl T.z_tuple (by decide +kernel) (pa_cons (pe_lc (own := [("thing", 6)]) (g := (gName 6)) (tt := (tTest (tOp (rEqA K) (tOp (rIxU K) (tVar 6) (tC (.int 0))) (tC (.str "fact"))))) (te := (tSl (rSlU K) (tVar 6) (tPart (tC (.int 1))) tNoPart)) rfl sc_law.nd (by exact (pi_seqW (pv 4))) (blkOk_by (own := [("thing", 6)]) (N := ["script", "state", "one", "other", "rows", "more", "thing", "bad", "made", "k", "value"]) (sc := defScope s_law) (by decide +kernel)) (fun _ _ _ _ _ => by exact (pg_name (i := 6) sc_law.nd rfl (Or.inl rfl))) (fun _ _ _ _ _ => by exact (pts_one (pt_cmpR (op_eqU hu) (pe_ix (ix_U (by exact ⟨rfl, rfl⟩) hu) (pv 6) pe_int (fun _ _ => rfl)) pe_str (nomark _)))) (fun _ _ _ _ _ => by exact (pe_slice sl_U (pv 6) (po_some pe_int) po_none))) pa_nil)) (nomark _)) (pw_or1 (pt_cmpR (op_neU hu) (by exact (pe_callU (ok_texts_among T) (hr.mono (by decide)) rfl T.g_texts_among T.f_texts_among.kp T.b_texts_among takes0 (by exact (pa_cons (pv 4) pa_nil)))) (pe_callTy call_tupU rfl T.z_tuple (by decide +kernel) (pa_cons (pe_lc (own := [("thing", 6)]) (g := (gName 6)) (tt := (tTest (tOp (rEqA K) (tOp (rIxU K) (tVar 6) (tC (.int 0))) (tC (.str "rule"))))) (te := (tOp (rIxU K) (tVar 6) (tC (.int 1)))) rfl sc_law.nd (by exact (pi_seqW (pv 4))) (blkOk_by (own := [("thing", 6)]) (N := ["script", "state", "one", "other", "rows", "more", "thing", "bad", "made", "k", "value"]) (sc := defScope s_law) (by decide +kernel)) (fun _ _ _ _ _ => by exact (pg_name (i := 6) sc_law.nd rfl (Or.inl rfl))) (fun _ _ _ _ _ => by exact (pts_one (pt_cmpR (op_eqU hu) (pe_ix (ix_U (by exact ⟨rfl, rfl⟩) hu) (pv 6) pe_int (fun _ _ => rfl)) pe_str (nomark _)))) (fun _ _ _ _ _ => by exact (pe_ix (ix_U (by exact ⟨rfl, rfl⟩) hu) (pv 6) pe_int (fun _ _ => rfl)))) pa_nil)) (nomark _))))) (pss_one (ps_ret pe_bl)) pss_nil)
    (pss_cons (ps_set (i := 5) sc_law.nd rfl (Or.inr rfl) (by exact (pe_callU (ok_law_ordered T) (hr.mono (by decide)) rfl T.g__law_ordered T.f_law_ordered.kp T.b_law_ordered takes0 (by exact (pa_cons (pv 3) pa_nil)))))
    (pss_cons (ps_if (PW.pt (pw_or (pt_cmpR (op_neU hu) (by exact (pe_callU (ok_only_in T) (hr.mono (by decide)) rfl T.g_only_in T.f_only_in.kp T.b_only_in takes0 (by exact (pa_cons (pv 4) (pa_cons (pv 5) pa_nil))))) (pe_callTy call_tupU rfl T.z_tuple (by decide +kernel) (pa_cons (pe_lc (own := [("thing", 6)]) (g := (gName 6)) (tt := (tTest (tOp (rNiU K) (tVar 6) (tVar 5)))) (te := (tVar 6)) rfl sc_law.nd (by exact (pi_seqW (pv 4))) (blkOk_by (own := [("thing", 6)]) (N := ["script", "state", "one", "other", "rows", "more", "thing", "bad", "made", "k", "value"]) (sc := defScope s_law) (by decide +kernel)) (fun _ _ _ _ _ => by exact (pg_name (i := 6) sc_law.nd rfl (Or.inl rfl))) (fun _ _ _ _ _ => by exact (pts_one (pt_cmpR (op_niU (by exact ⟨rfl, rfl⟩) hu5) (pv 6) (pv 5) (by rfl)))) (fun _ _ _ _ _ => by exact (pv 6))) pa_nil)) (nomark _)) (pw_or1 (pt_cmpR (op_neU hu) (by exact (pe_callU (ok_together T) (hr.mono (by decide)) rfl T.g_together T.f_together.kp T.b_together takes0 (by exact (pa_cons (pv 4) (pa_cons (pv 5) pa_nil))))) (by exact (pe_callU (ok_law_ordered T) (hr.mono (by decide)) rfl T.g__law_ordered T.f_law_ordered.kp T.b_law_ordered takes0 (by exact (pa_cons (pe_op op_addV (pv 2) (pv 3)) pa_nil)))) (nomark _))))) (pss_one (ps_ret pe_bl)) pss_nil)
    (pss_cons (ps_for PassesOwn.never rfl (pi_seqW (pv 4)) (pg_name (i := 6) sc_law.nd rfl (Or.inl rfl)) (pss_cons (ps_set (i := 8) sc_law.nd rfl (Or.inl rfl) (pe_ifExp (pt_cmpR (op_eqU hu) (pe_ix (ix_U (by exact ⟨rfl, rfl⟩) hu) (pv 6) pe_int (fun _ _ => rfl)) pe_str (nomark _)) (by exact (pe_callU (ok_fact_thing T) (hr.mono (by decide)) rfl T.g_fact_thing T.f_fact_thing.kp T.b_fact_thing takes0 (by exact (pa_cons (pe_ix (ix_U (by exact ⟨rfl, rfl⟩) hu) (pv 6) pe_int (fun _ _ => rfl)) (pa_cons (pe_callTy call_lstU rfl T.z_list (by decide +kernel) (pa_cons (pe_ix (ix_U (by exact ⟨rfl, rfl⟩) hu) (pv 6) pe_int (fun _ _ => rfl)) pa_nil)) pa_nil))))) (by exact (pe_callU (ok_rule_thing T) (hr.mono (by decide)) rfl T.g_rule_thing T.f_rule_thing.kp T.b_rule_thing takes0 (by exact (pa_cons (pe_ix (ix_U (by exact ⟨rfl, rfl⟩) hu) (pv 6) pe_int (fun _ _ => rfl)) pa_nil))))))
    (pss_one (ps_if (PW.pt (pw_or (pt_cmpR (op_neU hu) (pv 8) (pv 6) (nomark _)) (pw_or (pt_cmpR op_isnU (by exact (pe_callU (ok_is_thing T) (hr.mono (by decide)) rfl T.g_is_thing T.f_is_thing.kp T.b_is_thing takes0 (by exact (pa_cons (pv 6) pa_nil)))) pe_bl (nomark _)) (pw_or (pt_cmpR (op_neU hu) (by exact (pe_callU (ok_line_of_thing T) (hr.mono (by decide)) rfl T.g_line_of_thing T.f_line_of_thing.kp T.b_line_of_thing takes0 (by exact (pa_cons (pv 6) pa_nil)))) (by exact (pe_callU (ok_law_line T) (hr.mono (by decide)) rfl T.g__law_line T.f_law_line.kp T.b_law_line takes0 (by exact (pa_cons (pv 6) pa_nil)))) (nomark _)) (pw_or1 (pt_cmpR (op_neU hu) (pe_callB call_reprU rfl T.z_repr (by decide +kernel) (pa_cons (by exact (pe_callU (ok_is_fact_thing T) (hr.mono (by decide)) rfl T.g_is_fact_thing T.f_is_fact_thing.kp T.b_is_fact_thing takes0 (by exact (pa_cons (pv 6) pa_nil)))) pa_nil)) (pe_callB call_reprU rfl T.z_repr (by decide +kernel) (pa_cons (pe_cmpR (op_eqU hu) (pe_ix (ix_U (by exact ⟨rfl, rfl⟩) hu) (pv 6) pe_int (fun _ _ => rfl)) pe_str (nomark _)) pa_nil)) (nomark _))))))) (pss_one (ps_ret pe_bl)) pss_nil))))
    (pss_cons (ps_if (pt_cmpR (op_neU hu) (pe_lc (own := [("thing", 6)]) (g := (gName 6)) (tt := tYes) (te := (tCallS (spOf K 1 phKey) (WE (fun _ _ _ _ => False)) (tCons (tVar 6) tNil))) rfl sc_law.nd (by exact (pi_seqW (pv 4))) (blkOk_by (own := [("thing", 6)]) (N := ["script", "state", "one", "other", "rows", "more", "thing", "bad", "made", "k", "value"]) (sc := defScope s_law) (by decide +kernel)) (fun _ _ _ _ _ => by exact (pg_name (i := 6) sc_law.nd rfl (Or.inl rfl))) (fun _ _ _ _ _ => by exact pts_nil) (fun _ _ _ _ _ => by exact (by exact (pe_callU (ok_key_of T) (hr.mono (by decide)) rfl T.g_key_of T.f_key_of.kp T.b_key_of takes0 (by exact (pa_cons (pv 6) pa_nil)))))) (pe_callB (cr_sortU (by exact ⟨rfl, rfl⟩) rfl hu) rfl T.z_sorted (by decide +kernel) (pa_cons (pe_lc (own := [("thing", 6)]) (g := (gName 6)) (tt := tYes) (te := (tCallS (spOf K 1 phKey) (WE (fun _ _ _ _ => False)) (tCons (tVar 6) tNil))) rfl sc_law.nd (by exact (pi_seqW (by exact (pe_callU (ok_law_shuffled T) (hr.mono (by decide)) rfl T.g__law_shuffled T.f_law_shuffled.kp T.b_law_shuffled takes0 (by exact (pa_cons (pv 1) (pa_cons (pe_callTy call_lstU rfl T.z_list (by decide +kernel) (pa_cons (pv 4) pa_nil)) pa_nil))))))) (blkOk_by (own := [("thing", 6)]) (N := ["script", "state", "one", "other", "rows", "more", "thing", "bad", "made", "k", "value"]) (sc := defScope s_law) (by decide +kernel)) (fun _ _ _ _ _ => by exact (pg_name (i := 6) sc_law.nd rfl (Or.inl rfl))) (fun _ _ _ _ _ => by exact pts_nil) (fun _ _ _ _ _ => by exact (by exact (pe_callU (ok_key_of T) (hr.mono (by decide)) rfl T.g_key_of T.f_key_of.kp T.b_key_of takes0 (by exact (pa_cons (pv 6) pa_nil)))))) pa_nil)) (nomark _)) (pss_one (ps_ret pe_bl)) pss_nil)
    (pss_cons (ps_set (i := 7) sc_law.nd rfl (Or.inl rfl) (pe_lst (pa_cons pe_int (pa_cons (pe_tup (pa_cons pe_str (pa_cons pe_str (pa_cons (pe_lst (pa_cons pe_int pa_nil)) pa_nil)))) (pa_cons (pe_tup (pa_cons pe_str (pa_cons pe_str (pa_cons (pe_tup (pa_cons pe_non pa_nil)) pa_nil)))) (pa_cons (pe_tup (pa_cons pe_str (pa_cons pe_str (pa_cons (pe_tup pa_nil) pa_nil)))) (pa_cons (pe_tup (pa_cons pe_str pa_nil)) (pa_cons (pe_tup (pa_cons pe_str (pa_cons (pe_op op_mulV pe_str pe_int) pa_nil))) (pa_cons (pe_tup (pa_cons pe_str (pa_cons pe_str pa_nil))) (pa_cons (pe_tup (pa_cons pe_str (pa_cons pe_str (pa_cons (pe_op op_mulV (pe_tup (pa_cons pe_int pa_nil)) pe_int) pa_nil)))) pa_nil))))))))))
    (pss_cons (ps_if (PW.pt (pw_or (pt_cmpR (op_gtV hu) (pe_callB call_lenU rfl T.z_len (by decide +kernel) (pa_cons (pe_lc (own := [("value", 10)]) (g := (gName 10)) (tt := (tTest (tOp rNotB (tCallS (spOf K 1 phThing) (WE (fun _ _ _ _ => False)) (tCons (tVar 10) tNil)) (tC (.bl false))))) (te := (tVar 10)) rfl sc_law.nd (by exact (pi_seqW (pv 7))) (blkOk_by (own := [("value", 10)]) (N := ["script", "state", "one", "other", "rows", "more", "thing", "bad", "made", "k", "value"]) (sc := defScope s_law) (by decide +kernel)) (fun _ _ _ _ _ => by exact (pg_name (i := 10) sc_law.nd rfl (Or.inl rfl))) (fun _ _ _ _ _ => by exact (pts_one (pt_cmpR op_isnU (by exact (pe_callU (ok_is_thing T) (hr.mono (by decide)) rfl T.g_is_thing T.f_is_thing.kp T.b_is_thing takes0 (by exact (pa_cons (pv 10) pa_nil)))) pe_bl (nomark _)))) (fun _ _ _ _ _ => by exact (pv 10))) pa_nil)) pe_int (nomark _)) (pw_or (pt_cmpR op_isnU (by exact (pe_callU (ok_is_rule_text T) (hr.mono (by decide)) rfl T.g_is_rule_text T.f_is_rule_text.kp T.b_is_rule_text takes0 (by exact (pa_cons (pe_op op_mulV pe_str pe_int) pa_nil)))) pe_bl (nomark _)) (pw_or1 (pt_cmpR op_isnU (by exact (pe_callU (ok_is_rule_text T) (hr.mono (by decide)) rfl T.g_is_rule_text T.f_is_rule_text.kp T.b_is_rule_text takes0 (by exact (pa_cons pe_int pa_nil)))) pe_bl (nomark _)))))) (pss_one (ps_ret pe_bl)) pss_nil)
    (pss_one (ps_ret (by exact (pe_callU0 (ok_law_raised T) (hr.mono (by decide)) rfl T.g__law_raised T.f_law_raised.kp T.b_law_raised takes0))))))))))))))))), ?_⟩
  try dsimp only [cxOf_K]
  refine law_body (n := 10) (X := fun _ _ _ _ => False) rfl (fun ns hl => ?_) h
  refine st_seq (st_set (w := .p 0) (μ1 := [stD ns ⟨0, 0⟩]) (ev_lstP (ea_cons (ev_var rfl) (ea_cons ev_int (ea_cons ev_int ea_nil))) (by show 3 ≤ sizeLine; decide)) ?_)
  show St _ _ _ _ _ _
  dsimp only [List.set_cons_zero, List.set_cons_succ]
  obtain ⟨r0, r1⟩ := takeF_lt (ns := ns) (k := 0) (big := 0) (lim := (7 : Nat)) (by decide)
  have dr1 := draw_ev (K := K) (ns := ns) (δ := [some (.d (scr ns)), some (.p 0), none, none, none, none, none, none, none, none, none]) (μ := [stD ns ⟨0, 0⟩]) (n := 0) (v := 9) (lim := 7) (d := ⟨0, 0⟩) (fun _ => rfl) rfl (by show 9 < 11; decide) rfl (by decide) (by decide) (by decide)
  refine st_seq (st_set dr1 ?_)
  show St _ _ _ _ _ _
  dsimp only [List.set_cons_zero, List.set_cons_succ]
  have hg1 := things_good ns ((⟨0, 0⟩ : Dr).next ns (7 : Nat)) (takeF ns 0 0 (7 : Nat)).toNat
  have hl1 : (things ns ((⟨0, 0⟩ : Dr).next ns (7 : Nat)) (takeF ns 0 0 (7 : Nat)).toNat).length ≤ 100 := by rw [things_len]; omega
  have hk1 : 0 ≤ (thAt ns ((⟨0, 0⟩ : Dr).next ns (7 : Nat)) (takeF ns 0 0 (7 : Nat)).toNat).k := thAt_k (takeK_le (k := 0) (big := 0) (by decide)) _
  show St _ _ _ [some (.d (scr ns)), some (.p 0), some (.p 1), none, none, none, none, none, none, none, none] ([stD ns (thAt ns ((⟨0, 0⟩ : Dr).next ns (7 : Nat)) (takeF ns 0 0 (7 : Nat)).toNat), Cell.lst ((things ns ((⟨0, 0⟩ : Dr).next ns (7 : Nat)) (takeF ns 0 0 (7 : Nat)).toNat).map W.d)]) _
  generalize things ns ((⟨0, 0⟩ : Dr).next ns (7 : Nat)) (takeF ns 0 0 (7 : Nat)).toNat = one at hg1 hl1 ⊢
  generalize thAt ns ((⟨0, 0⟩ : Dr).next ns (7 : Nat)) (takeF ns 0 0 (7 : Nat)).toNat = d1 at hk1 ⊢
  obtain ⟨q0, q1⟩ := takeF_lt (ns := ns) (k := d1.k) (big := d1.b) (lim := (5 : Nat)) (by decide)
  have dr2 := draw_ev (K := K) (ns := ns) (δ := [some (.d (scr ns)), some (.p 0), some (.p 1), none, none, none, none, none, none, none, none]) (μ := [stD ns d1, Cell.lst (one.map W.d)]) (n := 0) (v := 9) (lim := 5) (d := d1) (fun _ => rfl) rfl (by show 9 < 11; decide) rfl hk1 (by decide) (by decide)
  refine st_seq (st_set dr2 ?_)
  show St _ _ _ _ _ _
  dsimp only [List.set_cons_zero, List.set_cons_succ]
  have hg2 := things_good ns (d1.next ns (5 : Nat)) (takeF ns d1.k d1.b (5 : Nat)).toNat
  have hl2 : (things ns (d1.next ns (5 : Nat)) (takeF ns d1.k d1.b (5 : Nat)).toNat).length ≤ 100 := by rw [things_len]; omega
  have hk2 : 0 ≤ (thAt ns (d1.next ns (5 : Nat)) (takeF ns d1.k d1.b (5 : Nat)).toNat).k := thAt_k (takeK_le hk1) _
  show St _ _ _ (Fr ns none none none none none none none) ([stD ns (thAt ns (d1.next ns (5 : Nat)) (takeF ns d1.k d1.b (5 : Nat)).toNat), Cell.lst (one.map W.d), Cell.lst ((things ns (d1.next ns (5 : Nat)) (takeF ns d1.k d1.b (5 : Nat)).toNat).map W.d)]) _
  generalize things ns (d1.next ns (5 : Nat)) (takeF ns d1.k d1.b (5 : Nat)).toNat = other at hg2 hl2 ⊢
  generalize thAt ns (d1.next ns (5 : Nat)) (takeF ns d1.k d1.b (5 : Nat)).toNat = d2 at hk2 ⊢
  have m : Ms ns one other d2 [stD ns d2, Cell.lst (one.map W.d), Cell.lst (other.map W.d)] := ⟨rfl, hk2, rfl, rfl⟩
  generalize ([stD ns d2, Cell.lst (one.map W.d), Cell.lst (other.map W.d)] : Mu) = μ at m ⊢
  refine st_seq (st_set (ev_call (n := 1) (ea_cons (ev_var rfl) ea_nil) rfl ⟨_, one, rfl, .l (.p m.c1), by omega, good_isT hg1, rfl⟩) ?_)
  show St _ _ _ (Fr ns (some (.d (.tuple (inOrd one)))) none none none none none none) _ _
  obtain ⟨d3, μ3, m3, e4⟩ := s4 (K := K) (a := a) (x5 := none) (x6 := none) (x7 := none) (x8 := none) (x9 := none) (x10 := none) m hg1 hl1
  refine st_seq (st_ifF e4 (st_next ?_))
  show St _ _ _ _ _ _
  refine st_seq (st_ifF (s5 hg1 hl1) (st_next ?_))
  show St _ _ _ _ _ _
  refine st_seq (st_ifF (s6 hg1 hl1) (st_next ?_))
  show St _ _ _ _ _ _
  refine st_seq (st_set (ev_call (n := 1) (ea_cons (ev_var rfl) ea_nil) rfl ⟨_, other, rfl, .l (.p m3.c2), by omega, good_isT hg2, rfl⟩) ?_)
  show St _ _ _ (Fr ns (some (.d (.tuple (inOrd one)))) (some (.d (.tuple (inOrd other)))) none none none none none) _ _
  obtain ⟨μ4, m4, e8⟩ := s8 (K := K) (x6 := none) (x7 := none) (x8 := none) (x9 := none) (x10 := none) m3 hg1 hg2 hl1 hl2
  refine st_seq (st_ifF e8 (st_next ?_))
  show St _ _ _ _ _ _
  refine st_seq (s9 (good_ord hg1) (Nat.le_trans inOrd_len (Nat.le_trans hl1 (by decide))) fun y6 y8 => ?_)
  show St _ _ _ _ _ _
  obtain ⟨d5, μ5, m5, e10⟩ := s10 (K := K) (x5 := some (.d (.tuple (inOrd other)))) (x6 := y6) (x7 := none) (x8 := y8) (x9 := none) (x10 := none) m4 hg1 hl1
  refine st_seq (st_ifF e10 (st_next ?_))
  show St _ _ _ _ _ _
  refine st_seq (st_set s11 ?_)
  show St _ _ _ (Fr ns (some (.d (.tuple (inOrd one)))) (some (.d (.tuple (inOrd other)))) y6 (some (.d (.list bads))) y8 none none) _ _
  refine st_seq (st_ifF s12 (st_next ?_))
  show St _ _ _ _ _ _
  exact DL.st_ret (ev_call (n := 0) ea_nil rfl ⟨rfl, rfl⟩) rfl
end Mine


set_option Elab.async false
set_option linter.all false
set_option maxRecDepth 100000
set_option maxHeartbeats 4000000
namespace Mine
open PySem PySem.Spec PyProof.Rows L2 DL

theorem all_mk {P : Program} {w : World} {K : PySem.W.Frag} {h : Heap} {mg : Str → Option Value} {fa : Addr} (X : K.In h) (G : h.Ns mainGlobals mg) (hfa : mg "law" = some (.ref fa))
    {oc0 kV0 dc0 pm0 cd0 ct0 : Value} {od0 an0 : Option Addr} {sl0 : Array (Option Value)} {oc1 kV1 dc1 pm1 cd1 ct1 : Value} {od1 an1 : Option Addr} {sl1 : Array (Option Value)} {oc2 kV2 dc2 pm2 cd2 ct2 : Value} {od2 an2 : Option Addr} {sl2 : Array (Option Value)} {oc3 kV3 dc3 pm3 cd3 ct3 : Value} {od3 an3 : Option Addr} {sl3 : Array (Option Value)} {oc4 kV4 dc4 pm4 cd4 ct4 : Value} {od4 an4 : Option Addr} {sl4 : Array (Option Value)} {oc5 kV5 dc5 pm5 cd5 ct5 : Value} {od5 an5 : Option Addr} {sl5 : Array (Option Value)} {oc6 kV6 dc6 pm6 cd6 ct6 : Value} {od6 an6 : Option Addr} {sl6 : Array (Option Value)} {oc7 kV7 dc7 pm7 cd7 ct7 : Value} {od7 an7 : Option Addr} {sl7 : Array (Option Value)} {oc8 kV8 dc8 pm8 cd8 ct8 : Value} {od8 an8 : Option Addr} {sl8 : Array (Option Value)} {oc9 kV9 dc9 pm9 cd9 ct9 : Value} {od9 an9 : Option Addr} {sl9 : Array (Option Value)} {oc10 kV10 dc10 pm10 cd10 ct10 : Value} {od10 an10 : Option Addr} {sl10 : Array (Option Value)} {oc11 kV11 dc11 pm11 cd11 ct11 : Value} {od11 an11 : Option Addr} {sl11 : Array (Option Value)} {oc12 kV12 dc12 pm12 cd12 ct12 : Value} {od12 an12 : Option Addr} {sl12 : Array (Option Value)} {oc13 kV13 dc13 pm13 cd13 ct13 : Value} {od13 an13 : Option Addr} {sl13 : Array (Option Value)} {oc14 kV14 dc14 pm14 cd14 ct14 : Value} {od14 an14 : Option Addr} {sl14 : Array (Option Value)} {oc15 kV15 dc15 pm15 cd15 ct15 : Value} {od15 an15 : Option Addr} {sl15 : Array (Option Value)} {oc16 kV16 dc16 pm16 cd16 ct16 : Value} {od16 an16 : Option Addr} {sl16 : Array (Option Value)} {oc17 kV17 dc17 pm17 cd17 ct17 : Value} {od17 an17 : Option Addr} {sl17 : Array (Option Value)} {oc18 kV18 dc18 pm18 cd18 ct18 : Value} {od18 an18 : Option Addr} {sl18 : Array (Option Value)} {oc19 kV19 dc19 pm19 cd19 ct19 : Value} {od19 an19 : Option Addr} {sl19 : Array (Option Value)} {oc20 kV20 dc20 pm20 cd20 ct20 : Value} {od20 an20 : Option Addr} {sl20 : Array (Option Value)} {oc21 kV21 dc21 pm21 cd21 ct21 : Value} {od21 an21 : Option Addr} {sl21 : Array (Option Value)} {oc22 kV22 dc22 pm22 cd22 ct22 : Value} {od22 an22 : Option Addr} {sl22 : Array (Option Value)} {oc23 kV23 dc23 pm23 cd23 ct23 : Value} {od23 an23 : Option Addr} {sl23 : Array (Option Value)} {oc24 kV24 dc24 pm24 cd24 ct24 : Value} {od24 an24 : Option Addr} {sl24 : Array (Option Value)} {oc25 kV25 dc25 pm25 cd25 ct25 : Value} {od25 an25 : Option Addr} {sl25 : Array (Option Value)} {oc26 kV26 dc26 pm26 cd26 ct26 : Value} {od26 an26 : Option Addr} {sl26 : Array (Option Value)} {oc27 kV27 dc27 pm27 cd27 ct27 : Value} {od27 an27 : Option Addr} {sl27 : Array (Option Value)} {oc28 kV28 dc28 pm28 cd28 ct28 : Value} {od28 an28 : Option Addr} {sl28 : Array (Option Value)} {oc29 kV29 dc29 pm29 cd29 ct29 : Value} {od29 an29 : Option Addr} {sl29 : Array (Option Value)} {oc30 kV30 dc30 pm30 cd30 ct30 : Value} {od30 an30 : Option Addr} {sl30 : Array (Option Value)} {c0 : Tok} {c1 : Tok} {c2 : Tok} {c3 : Tok} {c4 : Tok} {c5 : Tok} {f0 : Addr} {f1 : Addr} {f2 : Addr} {f3 : Addr} {f4 : Addr} {f5 : Addr} {f6 : Addr} {f7 : Addr} {f8 : Addr} {f9 : Addr} {f10 : Addr} {f11 : Addr} {f12 : Addr} {f13 : Addr} {f14 : Addr} {f15 : Addr} {f16 : Addr} {f17 : Addr} {f18 : Addr} {f19 : Addr} {f20 : Addr} {f21 : Addr} {f22 : Addr} {f23 : Addr} {f24 : Addr} {f25 : Addr} {f26 : Addr} {f27 : Addr} {f28 : Addr} {f29 : Addr} {f30 : Addr} {C0 : Addr}
    (gC0 : PySem.W.nsIn K mainGlobals "InvalidArgument" = some (some (.ref C0)))
    (a0 : PySem.W.nsIn K mainGlobals "is_number" = some (some (.ref f0)))
    (l0 : K.lookup f0 = some ⟨oc0, od0, .func (PySem.W.fnOf "is_number" "is_number" (defArgs s_is_number) (defBody s_is_number) (defScope s_is_number) .none kV0 dc0 pm0 an0 cd0 ct0), sl0⟩)
    (c0_ : PySem.W.codeIn K cd0 "is_number" = true)
    (k0 : PySem.W.keepIn K (.ref f0) = true)
    (a1 : PySem.W.nsIn K mainGlobals "is_name" = some (some (.ref f1)))
    (l1 : K.lookup f1 = some ⟨oc1, od1, .func (PySem.W.fnOf "is_name" "is_name" (defArgs s_is_name) (defBody s_is_name) (defScope s_is_name) .none kV1 dc1 pm1 an1 cd1 ct1), sl1⟩)
    (c1_ : PySem.W.codeIn K cd1 "is_name" = true)
    (k1 : PySem.W.keepIn K (.ref f1) = true)
    (a2 : PySem.W.nsIn K mainGlobals "is_value" = some (some (.ref f2)))
    (l2 : K.lookup f2 = some ⟨oc2, od2, .func (PySem.W.fnOf "is_value" "is_value" (defArgs s_is_value) (defBody s_is_value) (defScope s_is_value) .none kV2 dc2 pm2 an2 cd2 ct2), sl2⟩)
    (c2_ : PySem.W.codeIn K cd2 "is_value" = true)
    (k2 : PySem.W.keepIn K (.ref f2) = true)
    (a3 : PySem.W.nsIn K mainGlobals "order" = some (some (.ref f3)))
    (l3 : K.lookup f3 = some ⟨oc3, od3, .func (PySem.W.fnOf "order" "order" (defArgs s_order) (defBody s_order) (defScope s_order) .none kV3 dc3 pm3 an3 cd3 ct3), sl3⟩)
    (c3_ : PySem.W.codeIn K cd3 "order" = true)
    (k3 : PySem.W.keepIn K (.ref f3) = true)
    (a4 : PySem.W.nsIn K mainGlobals "is_rule_text" = some (some (.ref f4)))
    (l4 : K.lookup f4 = some ⟨oc4, od4, .func (PySem.W.fnOf "is_rule_text" "is_rule_text" (defArgs s_is_rule_text) (defBody s_is_rule_text) (defScope s_is_rule_text) .none kV4 dc4 pm4 an4 cd4 ct4), sl4⟩)
    (c4_ : PySem.W.codeIn K cd4 "is_rule_text" = true)
    (k4 : PySem.W.keepIn K (.ref f4) = true)
    (a5 : PySem.W.nsIn K mainGlobals "is_fact_thing" = some (some (.ref f5)))
    (l5 : K.lookup f5 = some ⟨oc5, od5, .func (PySem.W.fnOf "is_fact_thing" "is_fact_thing" (defArgs s_is_fact_thing) (defBody s_is_fact_thing) (defScope s_is_fact_thing) .none kV5 dc5 pm5 an5 cd5 ct5), sl5⟩)
    (c5_ : PySem.W.codeIn K cd5 "is_fact_thing" = true)
    (k5 : PySem.W.keepIn K (.ref f5) = true)
    (a6 : PySem.W.nsIn K mainGlobals "is_thing" = some (some (.ref f6)))
    (l6 : K.lookup f6 = some ⟨oc6, od6, .func (PySem.W.fnOf "is_thing" "is_thing" (defArgs s_is_thing) (defBody s_is_thing) (defScope s_is_thing) .none kV6 dc6 pm6 an6 cd6 ct6), sl6⟩)
    (c6_ : PySem.W.codeIn K cd6 "is_thing" = true)
    (k6 : PySem.W.keepIn K (.ref f6) = true)
    (a7 : PySem.W.nsIn K mainGlobals "key_of" = some (some (.ref f7)))
    (l7 : K.lookup f7 = some ⟨oc7, od7, .func (PySem.W.fnOf "key_of" "key_of" (defArgs s_key_of) (defBody s_key_of) (defScope s_key_of) .none kV7 dc7 pm7 an7 cd7 ct7), sl7⟩)
    (c7_ : PySem.W.codeIn K cd7 "key_of" = true)
    (k7 : PySem.W.keepIn K (.ref f7) = true)
    (a8 : PySem.W.nsIn K mainGlobals "in_order" = some (some (.ref f8)))
    (l8 : K.lookup f8 = some ⟨oc8, od8, .func (PySem.W.fnOf "in_order" "in_order" (defArgs s_in_order) (defBody s_in_order) (defScope s_in_order) .none kV8 dc8 pm8 an8 cd8 ct8), sl8⟩)
    (c8_ : PySem.W.codeIn K cd8 "in_order" = true)
    (k8 : PySem.W.keepIn K (.ref f8) = true)
    (a9 : PySem.W.nsIn K mainGlobals "are_things" = some (some (.ref f9)))
    (l9 : K.lookup f9 = some ⟨oc9, od9, .func (PySem.W.fnOf "are_things" "are_things" (defArgs s_are_things) (defBody s_are_things) (defScope s_are_things) .none kV9 dc9 pm9 an9 cd9 ct9), sl9⟩)
    (c9_ : PySem.W.codeIn K cd9 "are_things" = true)
    (k9 : PySem.W.keepIn K (.ref f9) = true)
    (a10 : PySem.W.nsIn K mainGlobals "fact_thing" = some (some (.ref f10)))
    (l10 : K.lookup f10 = some ⟨oc10, od10, .func (PySem.W.fnOf "fact_thing" "fact_thing" (defArgs s_fact_thing) (defBody s_fact_thing) (defScope s_fact_thing) .none kV10 dc10 pm10 an10 cd10 ct10), sl10⟩)
    (c10_ : PySem.W.codeIn K cd10 "fact_thing" = true)
    (k10 : PySem.W.keepIn K (.ref f10) = true)
    (a11 : PySem.W.nsIn K mainGlobals "rule_thing" = some (some (.ref f11)))
    (l11 : K.lookup f11 = some ⟨oc11, od11, .func (PySem.W.fnOf "rule_thing" "rule_thing" (defArgs s_rule_thing) (defBody s_rule_thing) (defScope s_rule_thing) .none kV11 dc11 pm11 an11 cd11 ct11), sl11⟩)
    (c11_ : PySem.W.codeIn K cd11 "rule_thing" = true)
    (k11 : PySem.W.keepIn K (.ref f11) = true)
    (a12 : PySem.W.nsIn K mainGlobals "facts_among" = some (some (.ref f12)))
    (l12 : K.lookup f12 = some ⟨oc12, od12, .func (PySem.W.fnOf "facts_among" "facts_among" (defArgs s_facts_among) (defBody s_facts_among) (defScope s_facts_among) .none kV12 dc12 pm12 an12 cd12 ct12), sl12⟩)
    (c12_ : PySem.W.codeIn K cd12 "facts_among" = true)
    (k12 : PySem.W.keepIn K (.ref f12) = true)
    (a13 : PySem.W.nsIn K mainGlobals "texts_among" = some (some (.ref f13)))
    (l13 : K.lookup f13 = some ⟨oc13, od13, .func (PySem.W.fnOf "texts_among" "texts_among" (defArgs s_texts_among) (defBody s_texts_among) (defScope s_texts_among) .none kV13 dc13 pm13 an13 cd13 ct13), sl13⟩)
    (c13_ : PySem.W.codeIn K cd13 "texts_among" = true)
    (k13 : PySem.W.keepIn K (.ref f13) = true)
    (a14 : PySem.W.nsIn K mainGlobals "only_in" = some (some (.ref f14)))
    (l14 : K.lookup f14 = some ⟨oc14, od14, .func (PySem.W.fnOf "only_in" "only_in" (defArgs s_only_in) (defBody s_only_in) (defScope s_only_in) .none kV14 dc14 pm14 an14 cd14 ct14), sl14⟩)
    (c14_ : PySem.W.codeIn K cd14 "only_in" = true)
    (k14 : PySem.W.keepIn K (.ref f14) = true)
    (a15 : PySem.W.nsIn K mainGlobals "together" = some (some (.ref f15)))
    (l15 : K.lookup f15 = some ⟨oc15, od15, .func (PySem.W.fnOf "together" "together" (defArgs s_together) (defBody s_together) (defScope s_together) .none kV15 dc15 pm15 an15 cd15 ct15), sl15⟩)
    (c15_ : PySem.W.codeIn K cd15 "together" = true)
    (k15 : PySem.W.keepIn K (.ref f15) = true)
    (a16 : PySem.W.nsIn K mainGlobals "line_of_thing" = some (some (.ref f16)))
    (l16 : K.lookup f16 = some ⟨oc16, od16, .func (PySem.W.fnOf "line_of_thing" "line_of_thing" (defArgs s_line_of_thing) (defBody s_line_of_thing) (defScope s_line_of_thing) .none kV16 dc16 pm16 an16 cd16 ct16), sl16⟩)
    (c16_ : PySem.W.codeIn K cd16 "line_of_thing" = true)
    (k16 : PySem.W.keepIn K (.ref f16) = true)
    (a17 : PySem.W.nsIn K mainGlobals "_law_cell" = some (some (.ref f17)))
    (l17 : K.lookup f17 = some ⟨oc17, od17, .func (PySem.W.fnOf "_law_cell" "_law_cell" (defArgs s_law_cell) (defBody s_law_cell) (defScope s_law_cell) .none kV17 dc17 pm17 an17 cd17 ct17), sl17⟩)
    (c17_ : PySem.W.codeIn K cd17 "_law_cell" = true)
    (k17 : PySem.W.keepIn K (.ref f17) = true)
    (a18 : PySem.W.nsIn K mainGlobals "_law_take" = some (some (.ref f18)))
    (l18 : K.lookup f18 = some ⟨oc18, od18, .func (PySem.W.fnOf "_law_take" "_law_take" (defArgs s_law_take) (defBody s_law_take) (defScope s_law_take) .none kV18 dc18 pm18 an18 cd18 ct18), sl18⟩)
    (c18_ : PySem.W.codeIn K cd18 "_law_take" = true)
    (k18 : PySem.W.keepIn K (.ref f18) = true)
    (a19 : PySem.W.nsIn K mainGlobals "_law_next" = some (some (.ref f19)))
    (l19 : K.lookup f19 = some ⟨oc19, od19, .func (PySem.W.fnOf "_law_next" "_law_next" (defArgs s_law_next) (defBody s_law_next) (defScope s_law_next) .none kV19 dc19 pm19 an19 cd19 ct19), sl19⟩)
    (c19_ : PySem.W.codeIn K cd19 "_law_next" = true)
    (k19 : PySem.W.keepIn K (.ref f19) = true)
    (a20 : PySem.W.nsIn K mainGlobals "_law_drawn_value" = some (some (.ref f20)))
    (l20 : K.lookup f20 = some ⟨oc20, od20, .func (PySem.W.fnOf "_law_drawn_value" "_law_drawn_value" (defArgs s_law_drawn_value) (defBody s_law_drawn_value) (defScope s_law_drawn_value) .none kV20 dc20 pm20 an20 cd20 ct20), sl20⟩)
    (c20_ : PySem.W.codeIn K cd20 "_law_drawn_value" = true)
    (k20 : PySem.W.keepIn K (.ref f20) = true)
    (a21 : PySem.W.nsIn K mainGlobals "_law_fact" = some (some (.ref f21)))
    (l21 : K.lookup f21 = some ⟨oc21, od21, .func (PySem.W.fnOf "_law_fact" "_law_fact" (defArgs s_law_fact) (defBody s_law_fact) (defScope s_law_fact) .none kV21 dc21 pm21 an21 cd21 ct21), sl21⟩)
    (c21_ : PySem.W.codeIn K cd21 "_law_fact" = true)
    (k21 : PySem.W.keepIn K (.ref f21) = true)
    (a22 : PySem.W.nsIn K mainGlobals "_law_key" = some (some (.ref f22)))
    (l22 : K.lookup f22 = some ⟨oc22, od22, .func (PySem.W.fnOf "_law_key" "_law_key" (defArgs s_law_key) (defBody s_law_key) (defScope s_law_key) .none kV22 dc22 pm22 an22 cd22 ct22), sl22⟩)
    (c22_ : PySem.W.codeIn K cd22 "_law_key" = true)
    (k22 : PySem.W.keepIn K (.ref f22) = true)
    (a23 : PySem.W.nsIn K mainGlobals "_law_rules" = some (some (.ref f23)))
    (l23 : K.lookup f23 = some ⟨oc23, od23, .func (PySem.W.fnOf "_law_rules" "_law_rules" (defArgs s_law_rules) (defBody s_law_rules) (defScope s_law_rules) .none kV23 dc23 pm23 an23 cd23 ct23), sl23⟩)
    (c23_ : PySem.W.codeIn K cd23 "_law_rules" = true)
    (k23 : PySem.W.keepIn K (.ref f23) = true)
    (a24 : PySem.W.nsIn K mainGlobals "_law_thing" = some (some (.ref f24)))
    (l24 : K.lookup f24 = some ⟨oc24, od24, .func (PySem.W.fnOf "_law_thing" "_law_thing" (defArgs s_law_thing) (defBody s_law_thing) (defScope s_law_thing) .none kV24 dc24 pm24 an24 cd24 ct24), sl24⟩)
    (c24_ : PySem.W.codeIn K cd24 "_law_thing" = true)
    (k24 : PySem.W.keepIn K (.ref f24) = true)
    (a25 : PySem.W.nsIn K mainGlobals "_law_thing_key" = some (some (.ref f25)))
    (l25 : K.lookup f25 = some ⟨oc25, od25, .func (PySem.W.fnOf "_law_thing_key" "_law_thing_key" (defArgs s_law_thing_key) (defBody s_law_thing_key) (defScope s_law_thing_key) .none kV25 dc25 pm25 an25 cd25 ct25), sl25⟩)
    (c25_ : PySem.W.codeIn K cd25 "_law_thing_key" = true)
    (k25 : PySem.W.keepIn K (.ref f25) = true)
    (a26 : PySem.W.nsIn K mainGlobals "_law_ordered" = some (some (.ref f26)))
    (l26 : K.lookup f26 = some ⟨oc26, od26, .func (PySem.W.fnOf "_law_ordered" "_law_ordered" (defArgs s_law_ordered) (defBody s_law_ordered) (defScope s_law_ordered) .none kV26 dc26 pm26 an26 cd26 ct26), sl26⟩)
    (c26_ : PySem.W.codeIn K cd26 "_law_ordered" = true)
    (k26 : PySem.W.keepIn K (.ref f26) = true)
    (a27 : PySem.W.nsIn K mainGlobals "_law_shuffled" = some (some (.ref f27)))
    (l27 : K.lookup f27 = some ⟨oc27, od27, .func (PySem.W.fnOf "_law_shuffled" "_law_shuffled" (defArgs s_law_shuffled) (defBody s_law_shuffled) (defScope s_law_shuffled) .none kV27 dc27 pm27 an27 cd27 ct27), sl27⟩)
    (c27_ : PySem.W.codeIn K cd27 "_law_shuffled" = true)
    (k27 : PySem.W.keepIn K (.ref f27) = true)
    (a28 : PySem.W.nsIn K mainGlobals "_law_line" = some (some (.ref f28)))
    (l28 : K.lookup f28 = some ⟨oc28, od28, .func (PySem.W.fnOf "_law_line" "_law_line" (defArgs s_law_line) (defBody s_law_line) (defScope s_law_line) .none kV28 dc28 pm28 an28 cd28 ct28), sl28⟩)
    (c28_ : PySem.W.codeIn K cd28 "_law_line" = true)
    (k28 : PySem.W.keepIn K (.ref f28) = true)
    (a29 : PySem.W.nsIn K mainGlobals "_law_raised" = some (some (.ref f29)))
    (l29 : K.lookup f29 = some ⟨oc29, od29, .func (PySem.W.fnOf "_law_raised" "_law_raised" (defArgs s_law_raised) (defBody s_law_raised) (defScope s_law_raised) .none kV29 dc29 pm29 an29 cd29 ct29), sl29⟩)
    (c29_ : PySem.W.codeIn K cd29 "_law_raised" = true)
    (k29 : PySem.W.keepIn K (.ref f29) = true)
    (a30 : PySem.W.nsIn K mainGlobals "law" = some (some (.ref f30)))
    (l30 : K.lookup f30 = some ⟨oc30, od30, .func (PySem.W.fnOf "law" "law" (defArgs s_law) (defBody s_law) (defScope s_law) .none kV30 dc30 pm30 an30 cd30 ct30), sl30⟩)
    (c30_ : PySem.W.codeIn K cd30 "law" = true)
    (k30 : PySem.W.keepIn K (.ref f30) = true)
    (xC0 : PySem.W.excIn K C0 [.type "ValueError", .type "Exception", .type "BaseException", .type "object"] "ValueError.__new__" = true)
    (kC0 : PySem.W.keepIn K (.ref C0) = true)
    (sbC0 : PySem.W.subIn K (.ref C0) (.type "BaseException") = some true)
    (tyC0 : PySem.W.typeIn K (.ref C0) = some (.type "type"))
    (icC0 : PySem.W.isClsIn K C0 = true)
    (suC0C0 : PySem.W.subIn K (.ref C0) (.ref C0) = some true)
    (gc0 : PySem.W.nsIn K mainGlobals "MOST_NUMBER" = some (some (.int 1000000000000 c0)))
    (gc1 : PySem.W.nsIn K mainGlobals "MOST_WORD" = some (some (.int 40 c1)))
    (gc2 : PySem.W.nsIn K mainGlobals "LETTERS" = some (some (.str "abcdefghijklmnopqrstuvwxyz" c2)))
    (gc3 : PySem.W.nsIn K mainGlobals "LATER" = some (some (.str "abcdefghijklmnopqrstuvwxyz0123456789_" c3)))
    (gc4 : PySem.W.nsIn K mainGlobals "LONGEST" = some (some (.int 400 c4)))
    (gc5 : PySem.W.nsIn K mainGlobals "MOST_VALUES" = some (some (.int 6 c5)))
    (z_abs : PySem.W.nsIn K mainGlobals "abs" = some none)
    (z_bool : PySem.W.nsIn K mainGlobals "bool" = some none)
    (z_dict : PySem.W.nsIn K mainGlobals "dict" = some none)
    (z_int : PySem.W.nsIn K mainGlobals "int" = some none)
    (z_isinstance : PySem.W.nsIn K mainGlobals "isinstance" = some none)
    (z_len : PySem.W.nsIn K mainGlobals "len" = some none)
    (z_list : PySem.W.nsIn K mainGlobals "list" = some none)
    (z_ord : PySem.W.nsIn K mainGlobals "ord" = some none)
    (z_range : PySem.W.nsIn K mainGlobals "range" = some none)
    (z_repr : PySem.W.nsIn K mainGlobals "repr" = some none)
    (z_sorted : PySem.W.nsIn K mainGlobals "sorted" = some none)
    (z_str : PySem.W.nsIn K mainGlobals "str" = some none)
    (z_tuple : PySem.W.nsIn K mainGlobals "tuple" = some none)
    : ∃ fd : FuncData, (∀ (s : Shared) (v : Value), BindsTo s fd ⟨[v], []⟩ [("script", v)]) ∧ ∀ base : Heap, K.In base → base.Ns mainGlobals mg → FnOk P w K mg base CX0 7 fa fd ["script"] (spLaw K) := by
  letI : Wd := ⟨P, w⟩
  have e := hfa.symm.trans (PySem.W.mg_of X G a30)
  cases e
  have F0 := fun_mk (st := s_is_number) l0 c0_ k0
  have F1 := fun_mk (st := s_is_name) l1 c1_ k1
  have F2 := fun_mk (st := s_is_value) l2 c2_ k2
  have F3 := fun_mk (st := s_order) l3 c3_ k3
  have F4 := fun_mk (st := s_is_rule_text) l4 c4_ k4
  have F5 := fun_mk (st := s_is_fact_thing) l5 c5_ k5
  have F6 := fun_mk (st := s_is_thing) l6 c6_ k6
  have F7 := fun_mk (st := s_key_of) l7 c7_ k7
  have F8 := fun_mk (st := s_in_order) l8 c8_ k8
  have F9 := fun_mk (st := s_are_things) l9 c9_ k9
  have F10 := fun_mk (st := s_fact_thing) l10 c10_ k10
  have F11 := fun_mk (st := s_rule_thing) l11 c11_ k11
  have F12 := fun_mk (st := s_facts_among) l12 c12_ k12
  have F13 := fun_mk (st := s_texts_among) l13 c13_ k13
  have F14 := fun_mk (st := s_only_in) l14 c14_ k14
  have F15 := fun_mk (st := s_together) l15 c15_ k15
  have F16 := fun_mk (st := s_line_of_thing) l16 c16_ k16
  have F17 := fun_mk (st := s_law_cell) l17 c17_ k17
  have F18 := fun_mk (st := s_law_take) l18 c18_ k18
  have F19 := fun_mk (st := s_law_next) l19 c19_ k19
  have F20 := fun_mk (st := s_law_drawn_value) l20 c20_ k20
  have F21 := fun_mk (st := s_law_fact) l21 c21_ k21
  have F22 := fun_mk (st := s_law_key) l22 c22_ k22
  have F23 := fun_mk (st := s_law_rules) l23 c23_ k23
  have F24 := fun_mk (st := s_law_thing) l24 c24_ k24
  have F25 := fun_mk (st := s_law_thing_key) l25 c25_ k25
  have F26 := fun_mk (st := s_law_ordered) l26 c26_ k26
  have F27 := fun_mk (st := s_law_shuffled) l27 c27_ k27
  have F28 := fun_mk (st := s_law_line) l28 c28_ k28
  have F29 := fun_mk (st := s_law_raised) l29 c29_ k29
  have F30 := fun_mk (st := s_law) l30 c30_ k30
  have B0 := F0.binds (ps := ["value"]) fun _ _ _ _ _ _ us hl => match us, hl with | [_], _ => rfl
  have B1 := F1.binds (ps := ["value"]) fun _ _ _ _ _ _ us hl => match us, hl with | [_], _ => rfl
  have B2 := F2.binds (ps := ["value"]) fun _ _ _ _ _ _ us hl => match us, hl with | [_], _ => rfl
  have B3 := F3.binds (ps := ["values"]) fun _ _ _ _ _ _ us hl => match us, hl with | [_], _ => rfl
  have B4 := F4.binds (ps := ["value"]) fun _ _ _ _ _ _ us hl => match us, hl with | [_], _ => rfl
  have B5 := F5.binds (ps := ["value"]) fun _ _ _ _ _ _ us hl => match us, hl with | [_], _ => rfl
  have B6 := F6.binds (ps := ["value"]) fun _ _ _ _ _ _ us hl => match us, hl with | [_], _ => rfl
  have B7 := F7.binds (ps := ["thing"]) fun _ _ _ _ _ _ us hl => match us, hl with | [_], _ => rfl
  have B8 := F8.binds (ps := ["things"]) fun _ _ _ _ _ _ us hl => match us, hl with | [_], _ => rfl
  have B9 := F9.binds (ps := ["value"]) fun _ _ _ _ _ _ us hl => match us, hl with | [_], _ => rfl
  have B10 := F10.binds (ps := ["relation", "values"]) fun _ _ _ _ _ _ us hl => match us, hl with | [_, _], _ => rfl
  have B11 := F11.binds (ps := ["text"]) fun _ _ _ _ _ _ us hl => match us, hl with | [_], _ => rfl
  have B12 := F12.binds (ps := ["things"]) fun _ _ _ _ _ _ us hl => match us, hl with | [_], _ => rfl
  have B13 := F13.binds (ps := ["things"]) fun _ _ _ _ _ _ us hl => match us, hl with | [_], _ => rfl
  have B14 := F14.binds (ps := ["one", "other"]) fun _ _ _ _ _ _ us hl => match us, hl with | [_, _], _ => rfl
  have B15 := F15.binds (ps := ["one", "other"]) fun _ _ _ _ _ _ us hl => match us, hl with | [_, _], _ => rfl
  have B16 := F16.binds (ps := ["thing"]) fun _ _ _ _ _ _ us hl => match us, hl with | [_], _ => rfl
  have B17 := F17.binds (ps := ["script", "k"]) fun _ _ _ _ _ _ us hl => match us, hl with | [_, _], _ => rfl
  have B18 := F18.binds (ps := ["state", "limit"]) fun _ _ _ _ _ _ us hl => match us, hl with | [_, _], _ => rfl
  have B19 := F19.binds (ps := ["state", "limit"]) fun _ _ _ _ _ _ us hl => match us, hl with | [_, _], _ => rfl
  have B20 := F20.binds (ps := ["state", "sort"]) fun _ _ _ _ _ _ us hl => match us, hl with | [_, _], _ => rfl
  have B21 := F21.binds (ps := ["state"]) fun _ _ _ _ _ _ us hl => match us, hl with | [_], _ => rfl
  have B22 := F22.binds (ps := ["values"]) fun _ _ _ _ _ _ us hl => match us, hl with | [_], _ => rfl
  have B23 := F23.binds (ps := []) fun _ _ _ _ _ _ us hl => match us, hl with | [], _ => rfl
  have B24 := F24.binds (ps := ["state"]) fun _ _ _ _ _ _ us hl => match us, hl with | [_], _ => rfl
  have B25 := F25.binds (ps := ["thing"]) fun _ _ _ _ _ _ us hl => match us, hl with | [_], _ => rfl
  have B26 := F26.binds (ps := ["things"]) fun _ _ _ _ _ _ us hl => match us, hl with | [_], _ => rfl
  have B27 := F27.binds (ps := ["state", "rows"]) fun _ _ _ _ _ _ us hl => match us, hl with | [_, _], _ => rfl
  have B28 := F28.binds (ps := ["thing"]) fun _ _ _ _ _ _ us hl => match us, hl with | [_], _ => rfl
  have B29 := F29.binds (ps := []) fun _ _ _ _ _ _ us hl => match us, hl with | [], _ => rfl
  have B30 := F30.binds (ps := ["script"]) fun _ _ _ _ _ _ us hl => match us, hl with | [_], _ => rfl
  let a : Ad := {
    f_is_number := f0, d_is_number := PySem.W.fnOf "is_number" "is_number" (defArgs s_is_number) (defBody s_is_number) (defScope s_is_number) .none kV0 dc0 pm0 an0 cd0 ct0,
    f_is_name := f1, d_is_name := PySem.W.fnOf "is_name" "is_name" (defArgs s_is_name) (defBody s_is_name) (defScope s_is_name) .none kV1 dc1 pm1 an1 cd1 ct1,
    f_is_value := f2, d_is_value := PySem.W.fnOf "is_value" "is_value" (defArgs s_is_value) (defBody s_is_value) (defScope s_is_value) .none kV2 dc2 pm2 an2 cd2 ct2,
    f_order := f3, d_order := PySem.W.fnOf "order" "order" (defArgs s_order) (defBody s_order) (defScope s_order) .none kV3 dc3 pm3 an3 cd3 ct3,
    f_is_rule_text := f4, d_is_rule_text := PySem.W.fnOf "is_rule_text" "is_rule_text" (defArgs s_is_rule_text) (defBody s_is_rule_text) (defScope s_is_rule_text) .none kV4 dc4 pm4 an4 cd4 ct4,
    f_is_fact_thing := f5, d_is_fact_thing := PySem.W.fnOf "is_fact_thing" "is_fact_thing" (defArgs s_is_fact_thing) (defBody s_is_fact_thing) (defScope s_is_fact_thing) .none kV5 dc5 pm5 an5 cd5 ct5,
    f_is_thing := f6, d_is_thing := PySem.W.fnOf "is_thing" "is_thing" (defArgs s_is_thing) (defBody s_is_thing) (defScope s_is_thing) .none kV6 dc6 pm6 an6 cd6 ct6,
    f_key_of := f7, d_key_of := PySem.W.fnOf "key_of" "key_of" (defArgs s_key_of) (defBody s_key_of) (defScope s_key_of) .none kV7 dc7 pm7 an7 cd7 ct7,
    f_in_order := f8, d_in_order := PySem.W.fnOf "in_order" "in_order" (defArgs s_in_order) (defBody s_in_order) (defScope s_in_order) .none kV8 dc8 pm8 an8 cd8 ct8,
    f_are_things := f9, d_are_things := PySem.W.fnOf "are_things" "are_things" (defArgs s_are_things) (defBody s_are_things) (defScope s_are_things) .none kV9 dc9 pm9 an9 cd9 ct9,
    f_fact_thing := f10, d_fact_thing := PySem.W.fnOf "fact_thing" "fact_thing" (defArgs s_fact_thing) (defBody s_fact_thing) (defScope s_fact_thing) .none kV10 dc10 pm10 an10 cd10 ct10,
    f_rule_thing := f11, d_rule_thing := PySem.W.fnOf "rule_thing" "rule_thing" (defArgs s_rule_thing) (defBody s_rule_thing) (defScope s_rule_thing) .none kV11 dc11 pm11 an11 cd11 ct11,
    f_facts_among := f12, d_facts_among := PySem.W.fnOf "facts_among" "facts_among" (defArgs s_facts_among) (defBody s_facts_among) (defScope s_facts_among) .none kV12 dc12 pm12 an12 cd12 ct12,
    f_texts_among := f13, d_texts_among := PySem.W.fnOf "texts_among" "texts_among" (defArgs s_texts_among) (defBody s_texts_among) (defScope s_texts_among) .none kV13 dc13 pm13 an13 cd13 ct13,
    f_only_in := f14, d_only_in := PySem.W.fnOf "only_in" "only_in" (defArgs s_only_in) (defBody s_only_in) (defScope s_only_in) .none kV14 dc14 pm14 an14 cd14 ct14,
    f_together := f15, d_together := PySem.W.fnOf "together" "together" (defArgs s_together) (defBody s_together) (defScope s_together) .none kV15 dc15 pm15 an15 cd15 ct15,
    f_line_of_thing := f16, d_line_of_thing := PySem.W.fnOf "line_of_thing" "line_of_thing" (defArgs s_line_of_thing) (defBody s_line_of_thing) (defScope s_line_of_thing) .none kV16 dc16 pm16 an16 cd16 ct16,
    f_law_cell := f17, d_law_cell := PySem.W.fnOf "_law_cell" "_law_cell" (defArgs s_law_cell) (defBody s_law_cell) (defScope s_law_cell) .none kV17 dc17 pm17 an17 cd17 ct17,
    f_law_take := f18, d_law_take := PySem.W.fnOf "_law_take" "_law_take" (defArgs s_law_take) (defBody s_law_take) (defScope s_law_take) .none kV18 dc18 pm18 an18 cd18 ct18,
    f_law_next := f19, d_law_next := PySem.W.fnOf "_law_next" "_law_next" (defArgs s_law_next) (defBody s_law_next) (defScope s_law_next) .none kV19 dc19 pm19 an19 cd19 ct19,
    f_law_drawn_value := f20, d_law_drawn_value := PySem.W.fnOf "_law_drawn_value" "_law_drawn_value" (defArgs s_law_drawn_value) (defBody s_law_drawn_value) (defScope s_law_drawn_value) .none kV20 dc20 pm20 an20 cd20 ct20,
    f_law_fact := f21, d_law_fact := PySem.W.fnOf "_law_fact" "_law_fact" (defArgs s_law_fact) (defBody s_law_fact) (defScope s_law_fact) .none kV21 dc21 pm21 an21 cd21 ct21,
    f_law_key := f22, d_law_key := PySem.W.fnOf "_law_key" "_law_key" (defArgs s_law_key) (defBody s_law_key) (defScope s_law_key) .none kV22 dc22 pm22 an22 cd22 ct22,
    f_law_rules := f23, d_law_rules := PySem.W.fnOf "_law_rules" "_law_rules" (defArgs s_law_rules) (defBody s_law_rules) (defScope s_law_rules) .none kV23 dc23 pm23 an23 cd23 ct23,
    f_law_thing := f24, d_law_thing := PySem.W.fnOf "_law_thing" "_law_thing" (defArgs s_law_thing) (defBody s_law_thing) (defScope s_law_thing) .none kV24 dc24 pm24 an24 cd24 ct24,
    f_law_thing_key := f25, d_law_thing_key := PySem.W.fnOf "_law_thing_key" "_law_thing_key" (defArgs s_law_thing_key) (defBody s_law_thing_key) (defScope s_law_thing_key) .none kV25 dc25 pm25 an25 cd25 ct25,
    f_law_ordered := f26, d_law_ordered := PySem.W.fnOf "_law_ordered" "_law_ordered" (defArgs s_law_ordered) (defBody s_law_ordered) (defScope s_law_ordered) .none kV26 dc26 pm26 an26 cd26 ct26,
    f_law_shuffled := f27, d_law_shuffled := PySem.W.fnOf "_law_shuffled" "_law_shuffled" (defArgs s_law_shuffled) (defBody s_law_shuffled) (defScope s_law_shuffled) .none kV27 dc27 pm27 an27 cd27 ct27,
    f_law_line := f28, d_law_line := PySem.W.fnOf "_law_line" "_law_line" (defArgs s_law_line) (defBody s_law_line) (defScope s_law_line) .none kV28 dc28 pm28 an28 cd28 ct28,
    f_law_raised := f29, d_law_raised := PySem.W.fnOf "_law_raised" "_law_raised" (defArgs s_law_raised) (defBody s_law_raised) (defScope s_law_raised) .none kV29 dc29 pm29 an29 cd29 ct29,
    f_law := fa, d_law := PySem.W.fnOf "law" "law" (defArgs s_law) (defBody s_law) (defScope s_law) .none kV30 dc30 pm30 an30 cd30 ct30,
    C_InvalidArgument := C0,
    c_MOST_NUMBER := c0,
    c_MOST_WORD := c1,
    c_LETTERS := c2,
    c_LATER := c3,
    c_LONGEST := c4,
    c_MOST_VALUES := c5 }
  have T : Txt K mg a := {
    f_is_number := F0, b_is_number := B0,
    g_is_number := PySem.W.mg_of X G a0,
    f_is_name := F1, b_is_name := B1,
    g_is_name := PySem.W.mg_of X G a1,
    f_is_value := F2, b_is_value := B2,
    g_is_value := PySem.W.mg_of X G a2,
    f_order := F3, b_order := B3,
    g_order := PySem.W.mg_of X G a3,
    f_is_rule_text := F4, b_is_rule_text := B4,
    g_is_rule_text := PySem.W.mg_of X G a4,
    f_is_fact_thing := F5, b_is_fact_thing := B5,
    g_is_fact_thing := PySem.W.mg_of X G a5,
    f_is_thing := F6, b_is_thing := B6,
    g_is_thing := PySem.W.mg_of X G a6,
    f_key_of := F7, b_key_of := B7,
    g_key_of := PySem.W.mg_of X G a7,
    f_in_order := F8, b_in_order := B8,
    g_in_order := PySem.W.mg_of X G a8,
    f_are_things := F9, b_are_things := B9,
    g_are_things := PySem.W.mg_of X G a9,
    f_fact_thing := F10, b_fact_thing := B10,
    g_fact_thing := PySem.W.mg_of X G a10,
    f_rule_thing := F11, b_rule_thing := B11,
    g_rule_thing := PySem.W.mg_of X G a11,
    f_facts_among := F12, b_facts_among := B12,
    g_facts_among := PySem.W.mg_of X G a12,
    f_texts_among := F13, b_texts_among := B13,
    g_texts_among := PySem.W.mg_of X G a13,
    f_only_in := F14, b_only_in := B14,
    g_only_in := PySem.W.mg_of X G a14,
    f_together := F15, b_together := B15,
    g_together := PySem.W.mg_of X G a15,
    f_line_of_thing := F16, b_line_of_thing := B16,
    g_line_of_thing := PySem.W.mg_of X G a16,
    f_law_cell := F17, b_law_cell := B17,
    g__law_cell := PySem.W.mg_of X G a17,
    f_law_take := F18, b_law_take := B18,
    g__law_take := PySem.W.mg_of X G a18,
    f_law_next := F19, b_law_next := B19,
    g__law_next := PySem.W.mg_of X G a19,
    f_law_drawn_value := F20, b_law_drawn_value := B20,
    g__law_drawn_value := PySem.W.mg_of X G a20,
    f_law_fact := F21, b_law_fact := B21,
    g__law_fact := PySem.W.mg_of X G a21,
    f_law_key := F22, b_law_key := B22,
    g__law_key := PySem.W.mg_of X G a22,
    f_law_rules := F23, b_law_rules := B23,
    g__law_rules := PySem.W.mg_of X G a23,
    f_law_thing := F24, b_law_thing := B24,
    g__law_thing := PySem.W.mg_of X G a24,
    f_law_thing_key := F25, b_law_thing_key := B25,
    g__law_thing_key := PySem.W.mg_of X G a25,
    f_law_ordered := F26, b_law_ordered := B26,
    g__law_ordered := PySem.W.mg_of X G a26,
    f_law_shuffled := F27, b_law_shuffled := B27,
    g__law_shuffled := PySem.W.mg_of X G a27,
    f_law_line := F28, b_law_line := B28,
    g__law_line := PySem.W.mg_of X G a28,
    f_law_raised := F29, b_law_raised := B29,
    g__law_raised := PySem.W.mg_of X G a29,
    f_law := F30, b_law := B30,
    g_law := PySem.W.mg_of X G a30,
    g_InvalidArgument := PySem.W.mg_of X G gC0,
    x_InvalidArgument := xC0, k_InvalidArgument := kC0, sb_InvalidArgument := sbC0, ty_InvalidArgument := tyC0,
    e_InvalidArgument_InvalidArgument := exm_of sbC0 icC0 tyC0 suC0C0,
    g_MOST_NUMBER := PySem.W.mg_of X G gc0,
    r_MOST_NUMBER := ⟨_, rfl⟩,
    g_MOST_WORD := PySem.W.mg_of X G gc1,
    r_MOST_WORD := ⟨_, rfl⟩,
    g_LETTERS := PySem.W.mg_of X G gc2,
    r_LETTERS := ⟨_, rfl⟩,
    g_LATER := PySem.W.mg_of X G gc3,
    r_LATER := ⟨_, rfl⟩,
    g_LONGEST := PySem.W.mg_of X G gc4,
    r_LONGEST := ⟨_, rfl⟩,
    g_MOST_VALUES := PySem.W.mg_of X G gc5,
    r_MOST_VALUES := ⟨_, rfl⟩,
    z_abs := PySem.W.mg_none_of X G z_abs,
    z_bool := PySem.W.mg_none_of X G z_bool,
    z_dict := PySem.W.mg_none_of X G z_dict,
    z_int := PySem.W.mg_none_of X G z_int,
    z_isinstance := PySem.W.mg_none_of X G z_isinstance,
    z_len := PySem.W.mg_none_of X G z_len,
    z_list := PySem.W.mg_none_of X G z_list,
    z_ord := PySem.W.mg_none_of X G z_ord,
    z_range := PySem.W.mg_none_of X G z_range,
    z_repr := PySem.W.mg_none_of X G z_repr,
    z_sorted := PySem.W.mg_none_of X G z_sorted,
    z_str := PySem.W.mg_none_of X G z_str,
    z_tuple := PySem.W.mg_none_of X G z_tuple }
  exact ⟨_, fun s v => .of_eq rfl, fun base _ _ => ok_law T⟩
end Mine
open PySem PySem.W PyProof.Rows in
set_option maxRecDepth 100000 in
set_option maxHeartbeats 0 in
theorem PySem.Challenge.cw_askproved_k38_things_in_order_holds : PySem.Challenge.rw_askproved_k38_things_in_order.Holds := by
  w_on; o_law; k_head; (case hw => w_witness2)
  k_fill
  refine DL.walk (l := PySem.Challenge.rw_askproved_k38_things_in_order) (k := 7) ⟨rfl, by decide, by decide⟩ rfl rfl (fun w h Y => PySem.W.kIn_of Y) ?F
  case F =>
    intro w mg fa h KX G hmg
    refine' Mine.all_mk KX G hmg ?gC0 ?a0 ?l0 ?c0_ ?k0 ?a1 ?l1 ?c1_ ?k1 ?a2 ?l2 ?c2_ ?k2 ?a3 ?l3 ?c3_ ?k3 ?a4 ?l4 ?c4_ ?k4 ?a5 ?l5 ?c5_ ?k5 ?a6 ?l6 ?c6_ ?k6 ?a7 ?l7 ?c7_ ?k7 ?a8 ?l8 ?c8_ ?k8 ?a9 ?l9 ?c9_ ?k9 ?a10 ?l10 ?c10_ ?k10 ?a11 ?l11 ?c11_ ?k11 ?a12 ?l12 ?c12_ ?k12 ?a13 ?l13 ?c13_ ?k13 ?a14 ?l14 ?c14_ ?k14 ?a15 ?l15 ?c15_ ?k15 ?a16 ?l16 ?c16_ ?k16 ?a17 ?l17 ?c17_ ?k17 ?a18 ?l18 ?c18_ ?k18 ?a19 ?l19 ?c19_ ?k19 ?a20 ?l20 ?c20_ ?k20 ?a21 ?l21 ?c21_ ?k21 ?a22 ?l22 ?c22_ ?k22 ?a23 ?l23 ?c23_ ?k23 ?a24 ?l24 ?c24_ ?k24 ?a25 ?l25 ?c25_ ?k25 ?a26 ?l26 ?c26_ ?k26 ?a27 ?l27 ?c27_ ?k27 ?a28 ?l28 ?c28_ ?k28 ?a29 ?l29 ?c29_ ?k29 ?a30 ?l30 ?c30_ ?k30 ?xC0 ?kC0 ?sbC0 ?tyC0 ?icC0 ?suC0C0 ?gc0 ?gc1 ?gc2 ?gc3 ?gc4 ?gc5 ?z_abs ?z_bool ?z_dict ?z_int ?z_isinstance ?z_len ?z_list ?z_ord ?z_range ?z_repr ?z_sorted ?z_str ?z_tuple
    (case gC0 => k_is)
    (case a0 => k_is)
    (case l0 => k_is)
    (case c0_ => k_is)
    (case k0 => k_is)
    (case a1 => k_is)
    (case l1 => k_is)
    (case c1_ => k_is)
    (case k1 => k_is)
    (case a2 => k_is)
    (case l2 => k_is)
    (case c2_ => k_is)
    (case k2 => k_is)
    (case a3 => k_is)
    (case l3 => k_is)
    (case c3_ => k_is)
    (case k3 => k_is)
    (case a4 => k_is)
    (case l4 => k_is)
    (case c4_ => k_is)
    (case k4 => k_is)
    (case a5 => k_is)
    (case l5 => k_is)
    (case c5_ => k_is)
    (case k5 => k_is)
    (case a6 => k_is)
    (case l6 => k_is)
    (case c6_ => k_is)
    (case k6 => k_is)
    (case a7 => k_is)
    (case l7 => k_is)
    (case c7_ => k_is)
    (case k7 => k_is)
    (case a8 => k_is)
    (case l8 => k_is)
    (case c8_ => k_is)
    (case k8 => k_is)
    (case a9 => k_is)
    (case l9 => k_is)
    (case c9_ => k_is)
    (case k9 => k_is)
    (case a10 => k_is)
    (case l10 => k_is)
    (case c10_ => k_is)
    (case k10 => k_is)
    (case a11 => k_is)
    (case l11 => k_is)
    (case c11_ => k_is)
    (case k11 => k_is)
    (case a12 => k_is)
    (case l12 => k_is)
    (case c12_ => k_is)
    (case k12 => k_is)
    (case a13 => k_is)
    (case l13 => k_is)
    (case c13_ => k_is)
    (case k13 => k_is)
    (case a14 => k_is)
    (case l14 => k_is)
    (case c14_ => k_is)
    (case k14 => k_is)
    (case a15 => k_is)
    (case l15 => k_is)
    (case c15_ => k_is)
    (case k15 => k_is)
    (case a16 => k_is)
    (case l16 => k_is)
    (case c16_ => k_is)
    (case k16 => k_is)
    (case a17 => k_is)
    (case l17 => k_is)
    (case c17_ => k_is)
    (case k17 => k_is)
    (case a18 => k_is)
    (case l18 => k_is)
    (case c18_ => k_is)
    (case k18 => k_is)
    (case a19 => k_is)
    (case l19 => k_is)
    (case c19_ => k_is)
    (case k19 => k_is)
    (case a20 => k_is)
    (case l20 => k_is)
    (case c20_ => k_is)
    (case k20 => k_is)
    (case a21 => k_is)
    (case l21 => k_is)
    (case c21_ => k_is)
    (case k21 => k_is)
    (case a22 => k_is)
    (case l22 => k_is)
    (case c22_ => k_is)
    (case k22 => k_is)
    (case a23 => k_is)
    (case l23 => k_is)
    (case c23_ => k_is)
    (case k23 => k_is)
    (case a24 => k_is)
    (case l24 => k_is)
    (case c24_ => k_is)
    (case k24 => k_is)
    (case a25 => k_is)
    (case l25 => k_is)
    (case c25_ => k_is)
    (case k25 => k_is)
    (case a26 => k_is)
    (case l26 => k_is)
    (case c26_ => k_is)
    (case k26 => k_is)
    (case a27 => k_is)
    (case l27 => k_is)
    (case c27_ => k_is)
    (case k27 => k_is)
    (case a28 => k_is)
    (case l28 => k_is)
    (case c28_ => k_is)
    (case k28 => k_is)
    (case a29 => k_is)
    (case l29 => k_is)
    (case c29_ => k_is)
    (case k29 => k_is)
    (case a30 => k_is)
    (case l30 => k_is)
    (case c30_ => k_is)
    (case k30 => k_is)
    (case xC0 => k_exc)
    (case kC0 => k_is)
    (case sbC0 => k_is)
    (case tyC0 => k_is)
    (case icC0 => k_is)
    (case suC0C0 => first | rfl | k_is)
    (case gc0 => k_is)
    (case gc1 => k_is)
    (case gc2 => k_is)
    (case gc3 => k_is)
    (case gc4 => k_is)
    (case gc5 => k_is)
    (case z_abs => k_is)
    (case z_bool => k_is)
    (case z_dict => k_is)
    (case z_int => k_is)
    (case z_isinstance => k_is)
    (case z_len => k_is)
    (case z_list => k_is)
    (case z_ord => k_is)
    (case z_range => k_is)
    (case z_repr => k_is)
    (case z_sorted => k_is)
    (case z_str => k_is)
    (case z_tuple => k_is)


