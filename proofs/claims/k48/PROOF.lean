import PyProof.Rows.All
import Wide.All
import OpenK.AllK
import Wide.FinOn
import HandS.ForMost
import HandS.ForExc
import HandS.TupAny
import HandS.TupMul
import HandS.Style
import HandS.IsInst
import HandS.Zip
import HandS.Small
import HandS.TryOnly
import HandS.Flow
import HandS.HotCalls
import HandS.CallSlots
import PySem.Challenge.RW_askproved_k48_tiles_and_losses_of_power
set_option Elab.async false
set_option linter.all false
set_option maxRecDepth 100000
set_option maxHeartbeats 2000000
namespace DL
open PySem PySem.Spec PyProof.Rows L2

/-! ### lists in pairs -/
section
variable {α β γ : Type} {R S : α → β → Prop}
theorem pr_mono (f : ∀ a b, R a b → S a b) : ∀ {xs : List α} {ys : List β}, Paired R xs ys → Paired S xs ys
  | _, _, .nil => .nil
  | _, _, .cons r t => .cons (f _ _ r) (pr_mono f t)
theorem pr_len : ∀ {xs : List α} {ys : List β}, Paired R xs ys → xs.length = ys.length
  | _, _, .nil => rfl
  | _, _, .cons _ t => congrArg (· + 1) (pr_len t)
theorem pr_get : ∀ {xs : List α} {ys : List β} {i : Nat} {y : β}, Paired R xs ys → ys[i]? = some y → ∃ x, xs[i]? = some x ∧ R x y
  | _, _, _, _, .nil, e => by simp at e
  | _, _, 0, _, .cons r _, e => by simp at e; subst e; exact ⟨_, rfl, r⟩
  | _, _, i + 1, y, .cons _ t, e => by
    obtain ⟨u, h1, h2⟩ := pr_get (i := i) (y := y) t (by simpa using e)
    exact ⟨u, by simpa using h1, h2⟩
theorem pr_getL : ∀ {xs : List α} {ys : List β} {i : Nat} {x : α}, Paired R xs ys → xs[i]? = some x → ∃ y, ys[i]? = some y ∧ R x y
  | _, _, _, _, .nil, e => by simp at e
  | _, _, 0, _, .cons r _, e => by simp at e; subst e; exact ⟨_, rfl, r⟩
  | _, _, i + 1, x, .cons _ t, e => by
    obtain ⟨u, h1, h2⟩ := pr_getL (i := i) (x := x) t (by simpa using e)
    exact ⟨u, by simpa using h1, h2⟩
theorem pr_set {x : α} {y : β} (r : R x y) : ∀ {xs : List α} {ys : List β} (i : Nat), Paired R xs ys → Paired R (xs.set i x) (ys.set i y)
  | _, _, _, .nil => .nil
  | _, _, 0, .cons _ t => .cons r t
  | _, _, i + 1, .cons q t => .cons q (pr_set r i t)
theorem pr_app : ∀ {xs : List α} {ys : List β} {us : List α} {ws : List β}, Paired R xs ys → Paired R us ws → Paired R (xs ++ us) (ys ++ ws)
  | _, _, _, _, .nil, s => s
  | _, _, _, _, .cons r t, s => .cons r (pr_app t s)
theorem pr_take : ∀ {xs : List α} {ys : List β} (n : Nat), Paired R xs ys → Paired R (xs.take n) (ys.take n)
  | _, _, 0, _ => .nil
  | _, _, _ + 1, .nil => .nil
  | _, _, n + 1, .cons r t => .cons r (pr_take n t)
theorem pr_drop : ∀ {xs : List α} {ys : List β} (n : Nat), Paired R xs ys → Paired R (xs.drop n) (ys.drop n)
  | _, _, 0, r => r
  | _, _, _ + 1, .nil => .nil
  | _, _, n + 1, .cons _ t => pr_drop n t
theorem pr_rev : ∀ {xs : List α} {ys : List β}, Paired R xs ys → Paired R xs.reverse ys.reverse
  | _, _, .nil => .nil
  | _, _, .cons r t => by
    rw [List.reverse_cons, List.reverse_cons]
    exact pr_app (pr_rev t) (.cons r .nil)
theorem pr_rep {x : α} {y : β} (r : R x y) : ∀ n : Nat, Paired R (List.replicate n x) (List.replicate n y)
  | 0 => .nil
  | n + 1 => .cons r (pr_rep r n)
theorem pr_flat : ∀ {xss : List (List α)} {yss : List (List β)}, Paired (Paired R) xss yss → Paired R xss.flatten yss.flatten
  | _, _, .nil => .nil
  | _, _, .cons r t => pr_app r (pr_flat t)
theorem pr_nilR {xs : List α} (h : Paired R xs []) : xs = [] := by cases h; rfl
theorem pr_nilL {ys : List β} (h : Paired R [] ys) : ys = [] := by cases h; rfl
theorem pr_map {f : α → γ} {T : γ → β → Prop} (hf : ∀ a b, R a b → T (f a) b) : ∀ {xs : List α} {ys : List β}, Paired R xs ys → Paired T (xs.map f) ys
  | _, _, .nil => .nil
  | _, _, .cons r t => .cons (hf _ _ r) (pr_map hf t)
end

/-! ### heaps that grow -/
def Ex (H H' : Hp) : Prop := ∀ a o, H a = some o → H' a = some o
theorem Ex.refl (H : Hp) : Ex H H := fun _ _ h => h
theorem Ex.trans {H H1 H2 : Hp} (a : Ex H H1) (b : Ex H1 H2) : Ex H H2 := fun x o h => b x o (a x o h)
theorem Ex.new {H : Hp} {p : Addr} {o : HO} (h : H p = none) : Ex H (upd H p o) := fun a u e => by
  rw [upd_ne (ne_of_none e h)]
  exact e
theorem Ex.upd2 {F H : Hp} {p : Addr} {o : HO} (e : Ex F H) : Ex (upd F p o) (upd H p o) := fun a u h => by
  by_cases q : a = p
  · subst q
    rw [upd_same] at h ⊢
    exact h
  · rw [upd_ne q] at h ⊢
    exact e a u h
theorem Ex.un {F H : Hp} {p : Addr} (e : Ex F H) (h : H p = none) : F p = none := by
  cases q : F p with
  | none => rfl
  | some o =>
    rw [e p o q] at h
    cases h
theorem Ex.updR {F H : Hp} {p : Addr} {o : HO} (e : Ex F H) (h : F p = none) : Ex F (upd H p o) := fun a u q => by
  rw [upd_ne (ne_of_none q h)]
  exact e a u q
theorem ex_rd {H H' : Hp} {a : Addr} {u : HO} (e : Ex H H') (h : Rd H a u) : Rd H' a u := by
  rcases h with h | ⟨o, h⟩
  · exact Or.inl (e a _ h)
  · exact Or.inr ⟨o, e a _ h⟩
theorem ex_l {K : PySem.W.Frag} {H H' : Hp} {a : Addr} {xs : List V} (e : Ex H H') (h : SqL K H a xs) : SqL K H' a xs := by
  rcases h with h | h
  · exact Or.inl (ex_rd e h)
  · exact Or.inr h
theorem ex_t {K : PySem.W.Frag} {H H' : Hp} {a : Addr} {xs : List V} (e : Ex H H') (h : SqT K H a xs) : SqT K H' a xs := by
  rcases h with h | h
  · exact Or.inl (ex_rd e h)
  · exact Or.inr h
mutual
theorem dp_ex {K : PySem.W.Frag} {H H' : Hp} (e : Ex H H') : ∀ {v : V} {x : PyData}, Dp K H v x → Dp K H' v x
  | _, _, .non => .non
  | _, _, .bl b => .bl b
  | _, _, .int i => .int i
  | _, _, .str x => .str x
  | _, _, .lst h t => .lst (ex_l e h) (dpAll_ex e t)
  | _, _, .tup h t => .tup (ex_t e h) (dpAll_ex e t)
theorem dpAll_ex {K : PySem.W.Frag} {H H' : Hp} (e : Ex H H') : ∀ {vs : List V} {xs : List PyData}, DpAll K H vs xs → DpAll K H' vs xs
  | _, _, .nil => .nil
  | _, _, .cons h t => .cons (dp_ex e h) (dpAll_ex e t)
end
theorem dpAll_pr {K : PySem.W.Frag} {H : Hp} : ∀ {vs : List V} {xs : List PyData}, DpAll K H vs xs → Paired (Dp K H) vs xs
  | _, _, .nil => .nil
  | _, _, .cons h t => .cons h (dpAll_pr t)
theorem pr_dpAll {K : PySem.W.Frag} {H : Hp} : ∀ {vs : List V} {xs : List PyData}, Paired (Dp K H) vs xs → DpAll K H vs xs
  | _, _, .nil => .nil
  | _, _, .cons h t => .cons h (pr_dpAll t)

/-! ### the plain store -/
/-- a worth: plain data; the cell of a store; any other value as it is -/
inductive W where
  | d (x : PyData)
  | p (n : Nat)
  | r (v : V)
abbrev W.i (n : Int) : W := .d (.int n)
abbrev W.b (x : Bool) : W := .d (.bool x)
abbrev W.s (x : Str) : W := .d (.str x)
/-- what may be changed -/
inductive Cell where
  | gone
  | lst (xs : List W)
  | ins (C : Addr) (fs : List (Str × W))
abbrev Mu := List Cell
/-- the frame's names -/
abbrev Dl := List (Option W)

def VW (K : PySem.W.Frag) (F : Hp) (ρ : List Addr) (v : V) (w : W) : Prop := match w with
  | .d x => Dp K F v x
  | .p n => ∃ a, ρ[n]? = some a ∧ v = .ref a
  | .r u => v = u
def FW (K : PySem.W.Frag) (F : Hp) (ρ : List Addr) (p : Str × V) (q : Str × W) : Prop := p.1 = q.1 ∧ VW K F ρ p.2 q.2
def CellOk (K : PySem.W.Frag) (F : Hp) (ρ : List Addr) (H : Hp) (a : Addr) (c : Cell) : Prop := match c with
  | .gone => True
  | .lst xs => F a = none ∧ ∃ vs, H a = some (.lst vs) ∧ Paired (VW K F ρ) vs xs
  | .ins C fs => F a = none ∧ ∃ dx fv, H a = some (.ins C dx fv) ∧ Paired (FW K F ρ) fv fs
structure Ok (K : PySem.W.Frag) (F : Hp) (ρ : List Addr) (H : Hp) (μ : Mu) : Prop where
  ex : Ex F H
  len : ρ.length = μ.length
  nd : ρ.Nodup
  tr : ∀ a, a ∈ ρ → H a ≠ none
  ce : ∀ (n : Nat) (a : Addr) (c : Cell), ρ[n]? = some a → μ[n]? = some c → CellOk K F ρ H a c
structure Go (F : Hp) (ρ : List Addr) (H : Hp) (F' : Hp) (ρ' : List Addr) (H' : Hp) : Prop where
  ex : Ex F F'
  pre : ∃ t, ρ' = ρ ++ t
  fr : ∀ b o, H b = some o → b ∉ ρ → H' b = some o
  nw : ∀ b, b ∈ ρ' → b ∈ ρ ∨ H b = none
  nf : ∀ b, F' b ≠ none → F b ≠ none ∨ H b = none ∨ b ∈ ρ
  tr : ∀ b, H b ≠ none → H' b ≠ none
def Sl (K : PySem.W.Frag) (F : Hp) (ρ : List Addr) (σ : L2.St) (δ : Dl) : Prop := Paired (fun (s : Option V) (w : Option W) => ∀ x, w = some x → ∃ v, s = some v ∧ VW K F ρ v x) σ δ

section
variable {K : PySem.W.Frag} {F F' F'' H H' H'' : Hp} {ρ ρ' ρ'' : List Addr} {μ μ' : Mu} {σ : L2.St} {δ : Dl} {v u : V} {w x : W}
theorem Go.refl : Go F ρ H F ρ H := ⟨Ex.refl F, ⟨[], by simp⟩, fun _ _ h _ => h, fun _ h => .inl h, fun _ h => .inl h, fun _ h => h⟩
theorem Go.trans (a : Go F ρ H F' ρ' H') (b : Go F' ρ' H' F'' ρ'' H'') : Go F ρ H F'' ρ'' H'' := by
  obtain ⟨t, e⟩ := a.pre
  obtain ⟨t', e'⟩ := b.pre
  have back : ∀ c, H' c = none → H c = none := fun c h => by
    cases q : H c with
    | none => rfl
    | some o => exact absurd h (a.tr c (by rw [q]; intro z; cases z))
  refine ⟨a.ex.trans b.ex, ⟨t ++ t', by rw [e', e, List.append_assoc]⟩, fun c o h hc => ?_, fun c hc => ?_, fun c hc => ?_, fun c h => b.tr c (a.tr c h)⟩
  · refine b.fr c o (a.fr c o h hc) fun z => ?_
    rcases a.nw c z with q | q
    · exact hc q
    · rw [q] at h
      cases h
  · rcases b.nw c hc with q | q
    · exact a.nw c q
    · exact .inr (back c q)
  · rcases b.nf c hc with q | q | q
    · exact a.nf c q
    · exact .inr (.inl (back c q))
    · rcases a.nw c q with z | z
      · exact .inr (.inr z)
      · exact .inr (.inl z)
theorem Go.at (g : Go F ρ H F' ρ' H') {n : Nat} {a : Addr} (h : ρ[n]? = some a) : ρ'[n]? = some a := by
  obtain ⟨t, e⟩ := g.pre
  obtain ⟨q, _⟩ := List.getElem?_eq_some_iff.mp h
  rw [e, List.getElem?_append_left q]
  exact h
theorem vw_go (g : Go F ρ H F' ρ' H') (h : VW K F ρ v w) : VW K F' ρ' v w := by
  cases w with
  | d x => exact dp_ex g.ex h
  | p n =>
    obtain ⟨a, e, q⟩ := h
    exact ⟨a, g.at e, q⟩
  | r u => exact h
theorem vws_go (g : Go F ρ H F' ρ' H') {vs : List V} {ws : List W} (h : Paired (VW K F ρ) vs ws) : Paired (VW K F' ρ') vs ws := pr_mono (fun _ _ => vw_go g) h
theorem fws_go (g : Go F ρ H F' ρ' H') {vs : List (Str × V)} {ws : List (Str × W)} (h : Paired (FW K F ρ) vs ws) : Paired (FW K F' ρ') vs ws := pr_mono (fun _ _ q => ⟨q.1, vw_go g q.2⟩) h
theorem sl_go (g : Go F ρ H F' ρ' H') (h : Sl K F ρ σ δ) : Sl K F' ρ' σ δ := pr_mono (fun _ _ q x e => let ⟨v, a, b⟩ := q x e; ⟨v, a, vw_go g b⟩) h
theorem sl_get {i : Nat} (h : Sl K F ρ σ δ) (e : δ[i]? = some (some w)) : ∃ v, σ[i]? = some (some v) ∧ VW K F ρ v w := by
  obtain ⟨s, e1, q⟩ := pr_get h e
  obtain ⟨v, rfl, q2⟩ := q w rfl
  exact ⟨v, e1, q2⟩
theorem sl_set {i : Nat} (h : Sl K F ρ σ δ) (q : VW K F ρ v w) : Sl K F ρ (σ.set i (some v)) (δ.set i (some w)) := pr_set (fun x e => ⟨v, rfl, by cases e; exact q⟩) i h
theorem sl_un {i : Nat} {s : Option V} (h : Sl K F ρ σ δ) : Sl K F ρ (σ.set i s) (δ.set i none) := pr_set (fun x e => nomatch e) i h
/-- a cell's address -/
theorem Ok.at (k : Ok K F ρ H μ) {n : Nat} {c : Cell} (h : μ[n]? = some c) : ∃ a, ρ[n]? = some a ∧ CellOk K F ρ H a c := by
  obtain ⟨q, _⟩ := List.getElem?_eq_some_iff.mp h
  have z : n < ρ.length := by rw [k.len]; exact q
  exact ⟨ρ[n], List.getElem?_eq_getElem z, k.ce n _ c (List.getElem?_eq_getElem z) h⟩
theorem Ok.free (k : Ok K F ρ H μ) {p : Addr} (h : H p = none) : F p = none ∧ p ∉ ρ := ⟨k.ex.un h, fun z => k.tr p z h⟩
/-- frozen things grow -/
theorem cell_ex (e : Ex F F') {a : Addr} {c : Cell} (hF : F' a = F a) (h : CellOk K F ρ H a c) (hH : H' a = H a) : CellOk K F' ρ H' a c := by
  have vw : ∀ v w, VW K F ρ v w → VW K F' ρ v w := fun v w q => by
    cases w with
    | d x => exact dp_ex e q
    | p n => exact q
    | r u => exact q
  cases c with
  | gone => trivial
  | lst xs =>
    obtain ⟨h1, vs, h2, h3⟩ := h
    exact ⟨hF.trans h1, vs, hH.trans h2, pr_mono vw h3⟩
  | ins C fs =>
    obtain ⟨h1, dx, fv, h2, h3⟩ := h
    exact ⟨hF.trans h1, dx, fv, hH.trans h2, pr_mono (fun _ _ q => ⟨q.1, vw _ _ q.2⟩) h3⟩
/-- a new frozen object -/
theorem Ok.freeze (k : Ok K F ρ H μ) {p : Addr} {o : HO} (h : H p = none) : Ok K (upd F p o) ρ (upd H p o) μ ∧ Go F ρ H (upd F p o) ρ (upd H p o) := by
  obtain ⟨hF, hr⟩ := k.free h
  have ne : ∀ {a : Addr}, a ∈ ρ → a ≠ p := fun {a} z q => hr (q ▸ z)
  refine ⟨⟨k.ex.upd2, k.len, k.nd, fun a ha => ?_, fun n a c e1 e2 => ?_⟩, ⟨Ex.new hF, ⟨[], by simp⟩, fun b o' e _ => ?_, fun _ z => .inl z, fun b z => ?_, fun b z => ?_⟩⟩
  · rw [upd_ne (ne ha)]
    exact k.tr a ha
  · have m := ne (List.mem_of_getElem? e1)
    exact cell_ex (Ex.new hF) (upd_ne m) (k.ce n a c e1 e2) (upd_ne m)
  · rw [upd_ne (ne_of_none e h)]
    exact e
  · by_cases q : b = p
    · subst q
      exact .inr (.inl h)
    · rw [upd_ne q] at z
      exact .inl z
  · by_cases q : b = p
    · subst q
      rw [upd_same]
      intro z
      cases z
    · rw [upd_ne q]
      exact z
/-- a new cell -/
theorem Ok.push (k : Ok K F ρ H μ) {p : Addr} {o : HO} {c : Cell} (h : H p = none) (hc : CellOk K F (ρ ++ [p]) (upd H p o) p c) :
    Ok K F (ρ ++ [p]) (upd H p o) (μ ++ [c]) ∧ Go F ρ H F (ρ ++ [p]) (upd H p o) ∧ (ρ ++ [p])[μ.length]? = some p := by
  obtain ⟨hF, hr⟩ := k.free h
  have ne : ∀ {a : Addr}, a ∈ ρ → a ≠ p := fun {a} z q => hr (q ▸ z)
  have g : Go F ρ H F (ρ ++ [p]) (upd H p o) := by
    refine ⟨Ex.refl F, ⟨[p], rfl⟩, fun b o' e _ => ?_, fun b z => ?_, fun b z => .inl z, fun b z => ?_⟩
    · rw [upd_ne (ne_of_none e h)]
      exact e
    · rcases List.mem_append.mp z with z | z
      · exact .inl z
      · simp at z
        subst z
        exact .inr h
    · by_cases q : b = p
      · subst q
        rw [upd_same]
        intro z
        cases z
      · rw [upd_ne q]
        exact z
  have el : (ρ ++ [p])[μ.length]? = some p := by rw [← k.len]; simp
  refine ⟨⟨k.ex.updR hF, by simp [k.len], ?_, fun a ha => ?_, fun n a c' e1 e2 => ?_⟩, g, el⟩
  · exact List.nodup_append.mpr ⟨k.nd, by simp, fun a ha b hb e => by
      simp at hb
      subst hb
      exact ne ha e⟩
  · rcases List.mem_append.mp ha with z | z
    · rw [upd_ne (ne z)]
      exact k.tr a z
    · simp at z
      subst z
      rw [upd_same]
      intro z
      cases z
  · by_cases q : n < ρ.length
    · rw [List.getElem?_append_left q] at e1
      rw [List.getElem?_append_left (by rw [← k.len]; exact q)] at e2
      have m := ne (List.mem_of_getElem? e1)
      have old := k.ce n a c' e1 e2
      cases c' with
      | gone => trivial
      | lst xs =>
        obtain ⟨h1, vs, h2, h3⟩ := old
        exact ⟨h1, vs, by rw [upd_ne m]; exact h2, vws_go g h3⟩
      | ins C fs =>
        obtain ⟨h1, dx, fv, h2, h3⟩ := old
        exact ⟨h1, dx, fv, by rw [upd_ne m]; exact h2, fws_go g h3⟩
    · have q' : ρ.length ≤ n := Nat.le_of_not_lt q
      rw [List.getElem?_append_right q'] at e1
      rw [List.getElem?_append_right (by rw [← k.len]; exact q')] at e2
      have z : n - ρ.length = 0 := by
        cases y : n - ρ.length with
        | zero => rfl
        | succ m => rw [y] at e1; simp at e1
      have z2 : n - μ.length = 0 := by rw [← k.len]; exact z
      rw [z] at e1
      rw [z2] at e2
      simp at e1 e2
      subst e1
      subst e2
      exact hc
/-- a cell is written -/
theorem Ok.put (k : Ok K F ρ H μ) {n : Nat} {a : Addr} {o : HO} {c : Cell} (ha : ρ[n]? = some a) (hF : F a = none) (hc : CellOk K F ρ (upd H a o) a c) :
    Ok K F ρ (upd H a o) (μ.set n c) ∧ Go F ρ H F ρ (upd H a o) := by
  have hm : a ∈ ρ := List.mem_of_getElem? ha
  refine ⟨⟨k.ex.updR hF, by simp [k.len], k.nd, fun b hb => ?_, fun m b c' e1 e2 => ?_⟩, ⟨Ex.refl F, ⟨[], by simp⟩, fun b o' e z => ?_, fun _ z => .inl z, fun b z => .inl z, fun b z => ?_⟩⟩
  · by_cases q : b = a
    · subst q
      rw [upd_same]
      intro z
      cases z
    · rw [upd_ne q]
      exact k.tr b hb
  · by_cases q : m = n
    · subst q
      rw [ha] at e1
      cases e1
      have l : m < μ.length := by
        obtain ⟨l, _⟩ := List.getElem?_eq_some_iff.mp ha
        rw [← k.len]
        exact l
      rw [List.getElem?_set_self l] at e2
      cases e2
      exact hc
    · rw [List.getElem?_set_ne (Ne.symm q)] at e2
      have nb : b ≠ a := fun z => q (by
        subst z
        exact nd_ix k.nd e1 ha)
      exact cell_ex (Ex.refl F) rfl (k.ce m b c' e1 e2) (upd_ne nb)
  · rw [upd_ne (fun q => z (by rw [q]; exact hm))]
    exact e
  · by_cases q : b = a
    · subst q
      rw [upd_same]
      intro z
      cases z
    · rw [upd_ne q]
      exact z
end
end DL
set_option Elab.async false
set_option linter.all false
set_option maxRecDepth 100000
set_option maxHeartbeats 2000000
namespace DL
open PySem PySem.Spec PyProof.Rows L2

def Ev (K : PySem.W.Frag) (te : TE) (δ : Dl) (μ : Mu) (w : W) (μ' : Mu) : Prop :=
  ∀ (F : Hp) (ρ : List Addr) (H : Hp) (σ : L2.St) (Q : VK), Ok K F ρ H μ → Sl K F ρ σ δ →
    (∀ v F' ρ' H', Go F ρ H F' ρ' H' → Ok K F' ρ' H' μ' → VW K F' ρ' v w → Q v H') → te σ H Q
def EvT (K : PySem.W.Frag) (tt : TT) (δ : Dl) (μ : Mu) (b : Bool) (μ' : Mu) : Prop :=
  ∀ (F : Hp) (ρ : List Addr) (H : Hp) (σ : L2.St) (Q : Bool → Hp → Prop), Ok K F ρ H μ → Sl K F ρ σ δ →
    (∀ F' ρ' H', Go F ρ H F' ρ' H' → Ok K F' ρ' H' μ' → Q b H') → tt σ H Q
def EvA (K : PySem.W.Frag) (ta : TA) (δ : Dl) (μ : Mu) (ws : List W) (μ' : Mu) : Prop :=
  ∀ (F : Hp) (ρ : List Addr) (H : Hp) (σ : L2.St) (Q : List V → Hp → Prop), Ok K F ρ H μ → Sl K F ρ σ δ →
    (∀ vs F' ρ' H', Go F ρ H F' ρ' H' → Ok K F' ρ' H' μ' → Paired (VW K F' ρ') vs ws → Q vs H') → ta σ H Q
def EvO (K : PySem.W.Frag) (to : TO) (δ : Dl) (μ : Mu) (o : Option Int) (μ' : Mu) : Prop :=
  ∀ (F : Hp) (ρ : List Addr) (H : Hp) (σ : L2.St) (Q : Option Int → Hp → Prop), Ok K F ρ H μ → Sl K F ρ σ δ →
    (∀ F' ρ' H', Go F ρ H F' ρ' H' → Ok K F' ρ' H' μ' → Q o H') → to σ H Q
/-- by values: two, a list -/
def RV (K : PySem.W.Frag) (r : R2) (x y : W) (μ : Mu) (z : W) (μ' : Mu) : Prop :=
  ∀ (F : Hp) (ρ : List Addr) (H : Hp) (v u : V) (Q : VK), Ok K F ρ H μ → VW K F ρ v x → VW K F ρ u y →
    (∀ v' F' ρ' H', Go F ρ H F' ρ' H' → Ok K F' ρ' H' μ' → VW K F' ρ' v' z → Q v' H') → r v u H Q
def RC (K : PySem.W.Frag) (r : List V → Hp → VK → Prop) (ws : List W) (μ : Mu) (z : W) (μ' : Mu) : Prop :=
  ∀ (F : Hp) (ρ : List Addr) (H : Hp) (vs : List V) (Q : VK), Ok K F ρ H μ → Paired (VW K F ρ) vs ws →
    (∀ v' F' ρ' H', Go F ρ H F' ρ' H' → Ok K F' ρ' H' μ' → VW K F' ρ' v' z → Q v' H') → r vs H Q
def RM (K : PySem.W.Frag) (r : V → List V → Hp → VK → Prop) (x : W) (ws : List W) (μ : Mu) (z : W) (μ' : Mu) : Prop :=
  ∀ (F : Hp) (ρ : List Addr) (H : Hp) (v : V) (vs : List V) (Q : VK), Ok K F ρ H μ → VW K F ρ v x → Paired (VW K F ρ) vs ws →
    (∀ v' F' ρ' H', Go F ρ H F' ρ' H' → Ok K F' ρ' H' μ' → VW K F' ρ' v' z → Q v' H') → r v vs H Q
def RU (K : PySem.W.Frag) (r : V → Hp → VK → Prop) (x : W) (μ : Mu) (z : W) (μ' : Mu) : Prop :=
  ∀ (F : Hp) (ρ : List Addr) (H : Hp) (v : V) (Q : VK), Ok K F ρ H μ → VW K F ρ v x →
    (∀ v' F' ρ' H', Go F ρ H F' ρ' H' → Ok K F' ρ' H' μ' → VW K F' ρ' v' z → Q v' H') → r v H Q

section
variable {K : PySem.W.Frag} {δ : Dl} {μ μ1 μ2 μ3 μ' : Mu} {ta tb tc te : TE} {tt tu : TT} {x y z w : W} {ws : List W} {tl : TA} {r r' : R2}
/-! ### names, constants, parts in a row -/
theorem ev_var {i : Nat} (h : δ[i]? = some (some w)) : Ev K (tVar i) δ μ w μ := fun F ρ H σ Q k s q => by
  obtain ⟨v, e, hv⟩ := sl_get s h
  exact ⟨v, e, q v F ρ H Go.refl k hv⟩
theorem ev_int {i : Int} : Ev K (tC (.int i)) δ μ (.i i) μ := fun F ρ H σ Q k s q => q _ F ρ H Go.refl k (Dp.int i)
theorem ev_bl {b : Bool} : Ev K (tC (.bl b)) δ μ (.b b) μ := fun F ρ H σ Q k s q => q _ F ρ H Go.refl k (Dp.bl b)
theorem ev_str {b : Str} : Ev K (tC (.str b)) δ μ (.s b) μ := fun F ρ H σ Q k s q => q _ F ρ H Go.refl k (Dp.str b)
theorem ev_non : Ev K (tC .non) δ μ (.d .none) μ := fun F ρ H σ Q k s q => q _ F ρ H Go.refl k Dp.non
theorem ev_raw {v : V} : Ev K (tC v) δ μ (.r v) μ := fun F ρ H σ Q k s q => q _ F ρ H Go.refl k rfl
/-- a constant of the module: data that stands in the written part -/
theorem ev_con {v : V} {x : PyData} (h : ∀ F, Dp K F v x) : Ev K (tC v) δ μ (.d x) μ := fun F ρ H σ Q k s q => q _ F ρ H Go.refl k (h F)
theorem ev_op (ha : Ev K ta δ μ x μ1) (hb : Ev K tb δ μ1 y μ2) (hr : RV K r x y μ2 z μ3) : Ev K (tOp r ta tb) δ μ z μ3 := fun F ρ H σ Q k s q =>
  ha F ρ H σ _ k s fun v F1 ρ1 H1 g1 k1 e1 => hb F1 ρ1 H1 σ _ k1 (sl_go g1 s) fun u F2 ρ2 H2 g2 k2 e2 =>
    hr F2 ρ2 H2 v u Q k2 (vw_go g2 e1) e2 fun v' F3 ρ3 H3 g3 k3 e3 => q v' F3 ρ3 H3 ((g1.trans g2).trans g3) k3 e3
theorem ev_un {r : V → Hp → VK → Prop} (ha : Ev K ta δ μ x μ1) (hr : RU K r x μ1 z μ2) : Ev K (tUn r ta) δ μ z μ2 := fun F ρ H σ Q k s q =>
  ha F ρ H σ _ k s fun v F1 ρ1 H1 g1 k1 e1 => hr F1 ρ1 H1 v Q k1 e1 fun v' F3 ρ3 H3 g3 k3 e3 => q v' F3 ρ3 H3 (g1.trans g3) k3 e3
theorem ea_nil : EvA K tNil δ μ [] μ := fun F ρ H σ Q k s q => q [] F ρ H Go.refl k .nil
theorem ea_cons (ha : Ev K ta δ μ x μ1) (hb : EvA K tl δ μ1 ws μ2) : EvA K (tCons ta tl) δ μ (x :: ws) μ2 := fun F ρ H σ Q k s q =>
  ha F ρ H σ _ k s fun v F1 ρ1 H1 g1 k1 e1 => hb F1 ρ1 H1 σ _ k1 (sl_go g1 s) fun vs F2 ρ2 H2 g2 k2 e2 =>
    q (v :: vs) F2 ρ2 H2 (g1.trans g2) k2 (.cons (vw_go g2 e1) e2)
theorem eo_none : EvO K (fun _ H Q => Q none H) δ μ none μ := fun F ρ H σ Q k s q => q F ρ H Go.refl k
theorem ev_is (h : Ev K te δ μ x μ') (e : x = y) : Ev K te δ μ y μ' := e ▸ h
/-- a call of a value with values -/
theorem ev_cb {r : List V → Hp → VK → Prop} (ha : EvA K tl δ μ ws μ1) (hr : RC K r ws μ1 z μ2) : Ev K (tCB r tl) δ μ z μ2 := fun F ρ H σ Q k s q =>
  ha F ρ H σ _ k s fun vs F1 ρ1 H1 g1 k1 e1 => hr F1 ρ1 H1 vs Q k1 e1 fun v' F3 ρ3 H3 g3 k3 e3 => q v' F3 ρ3 H3 (g1.trans g3) k3 e3

/-! ### what data stands for -/
theorem vw_int {F : Hp} {ρ : List Addr} {v : V} {i : Int} (h : VW K F ρ v (.i i)) : v = .int i := by
  have h' : Dp K F v (.int i) := h
  cases h'
  rfl
theorem vw_b {F : Hp} {ρ : List Addr} {v : V} {i : Bool} (h : VW K F ρ v (.b i)) : v = .bl i := by
  have h' : Dp K F v (.bool i) := h
  cases h'
  rfl
theorem vw_s {F : Hp} {ρ : List Addr} {v : V} {i : Str} (h : VW K F ρ v (.s i)) : v = .str i := by
  have h' : Dp K F v (.str i) := h
  cases h'
  rfl
theorem vw_n {F : Hp} {ρ : List Addr} {v : V} (h : VW K F ρ v (.d .none)) : v = .non := by
  have h' : Dp K F v .none := h
  cases h'
  rfl
theorem vw_t {F : Hp} {ρ : List Addr} {v : V} {xs : List PyData} (h : VW K F ρ v (.d (.tuple xs))) : ∃ a vs, v = .ref a ∧ SqT K F a vs ∧ Paired (Dp K F) vs xs := by
  have h' : Dp K F v (.tuple xs) := h
  cases h' with
  | tup a b => exact ⟨_, _, rfl, a, dpAll_pr b⟩
theorem vw_l {F : Hp} {ρ : List Addr} {v : V} {xs : List PyData} (h : VW K F ρ v (.d (.list xs))) : ∃ a vs, v = .ref a ∧ SqL K F a vs ∧ Paired (Dp K F) vs xs := by
  have h' : Dp K F v (.list xs) := h
  cases h' with
  | lst a b => exact ⟨_, _, rfl, a, dpAll_pr b⟩
theorem wv_t {F : Hp} {ρ : List Addr} {a : Addr} {vs : List V} {xs : List PyData} (h : SqT K F a vs) (p : Paired (Dp K F) vs xs) : VW K F ρ (.ref a) (.d (.tuple xs)) := Dp.tup h (pr_dpAll p)
theorem wv_l {F : Hp} {ρ : List Addr} {a : Addr} {vs : List V} {xs : List PyData} (h : SqL K F a vs) (p : Paired (Dp K F) vs xs) : VW K F ρ (.ref a) (.d (.list xs)) := Dp.lst h (pr_dpAll p)
/-- a list, frozen or a cell: its items -/
inductive Its (μ : Mu) : W → List W → Prop
  | d (xs : List PyData) : Its μ (.d (.list xs)) (xs.map .d)
  | p {n : Nat} {xs : List W} : μ[n]? = some (.lst xs) → Its μ (.p n) xs
/-- .. a tuple too -/
inductive Seq (μ : Mu) : W → List W → Prop
  | l {w : W} {xs : List W} : Its μ w xs → Seq μ w xs
  | t (xs : List PyData) : Seq μ (.d (.tuple xs)) (xs.map .d)
theorem pr_dmap {F : Hp} {ρ : List Addr} : ∀ {vs : List V} {xs : List PyData}, Paired (Dp K F) vs xs → Paired (VW K F ρ) vs (xs.map .d)
  | _, _, .nil => .nil
  | _, _, .cons h t => .cons h (pr_dmap t)
theorem pr_dun {F : Hp} {ρ : List Addr} : ∀ {vs : List V} {xs : List PyData}, Paired (VW K F ρ) vs (xs.map .d) → Paired (Dp K F) vs xs
  | _, [], h => by
    have e := pr_nilR h
    subst e
    exact .nil
  | _, x :: xs, h => by
    cases h with
    | cons a b => exact .cons a (pr_dun b)
theorem its_get {F H : Hp} {ρ : List Addr} {v : V} {xs : List W} (k : Ok K F ρ H μ) (h : VW K F ρ v w) (i : Its μ w xs) : ∃ a vs, v = .ref a ∧ SqL K H a vs ∧ Paired (VW K F ρ) vs xs := by
  cases i with
  | d xs =>
    obtain ⟨a, vs, e, hs, p⟩ := vw_l h
    exact ⟨a, vs, e, ex_l k.ex hs, pr_dmap p⟩
  | p e =>
    obtain ⟨a, e1, e2⟩ := h
    obtain ⟨b, e3, _, vs, e4, e5⟩ := k.at e
    rw [e1] at e3
    cases e3
    exact ⟨a, vs, e2, SqL.of e4, e5⟩
theorem seq_get {F H : Hp} {ρ : List Addr} {v : V} {xs : List W} (k : Ok K F ρ H μ) (h : VW K F ρ v w) (i : Seq μ w xs) : ∃ a vs, v = .ref a ∧ (SqL K H a vs ∨ SqT K H a vs) ∧ Paired (VW K F ρ) vs xs := by
  cases i with
  | l i =>
    obtain ⟨a, vs, e, hs, p⟩ := its_get k h i
    exact ⟨a, vs, e, .inl hs, p⟩
  | t xs =>
    obtain ⟨a, vs, e, hs, p⟩ := vw_t h
    exact ⟨a, vs, e, .inr (ex_t k.ex hs), pr_dmap p⟩

/-! ### operations by values -/
theorem rv_pure {r : R2} {v' : V} (h : ∀ (F : Hp) (ρ : List Addr) (H : Hp) (v u : V) (Q : VK), Ok K F ρ H μ → VW K F ρ v x → VW K F ρ u y → (∀ v', VW K F ρ v' z → Q v' H) → r v u H Q) : RV K r x y μ z μ :=
  fun F ρ H v u Q k a b q => h F ρ H v u Q k a b fun v' e => q v' F ρ H Go.refl k e
theorem rv_I0 {g : Int → Int → Int} {i j : Int} : RV K (rI0 fun i j => .int (g i j)) (.i i) (.i j) μ (.i (g i j)) μ := fun F ρ H v u Q k a b q =>
  ⟨i, j, vw_int a, vw_int b, q _ F ρ H Go.refl k (Dp.int _)⟩
theorem rv_I {C : Int → Int → Prop} {g : Int → Int → Int} {i j : Int} (h : C i j) : RV K (rI C fun i j => .int (g i j)) (.i i) (.i j) μ (.i (g i j)) μ := fun F ρ H v u Q k a b q =>
  ⟨i, j, vw_int a, vw_int b, h, q _ F ρ H Go.refl k (Dp.int _)⟩
theorem rv_B0 {g : Int → Int → Bool} {i j : Int} : RV K (rI0 fun i j => .bl (g i j)) (.i i) (.i j) μ (.b (g i j)) μ := fun F ρ H v u Q k a b q =>
  ⟨i, j, vw_int a, vw_int b, q _ F ρ H Go.refl k (Dp.bl _)⟩
theorem ru_I {g : Int → Int} {i : Int} : RU K (rU fun i => .int (g i)) (.i i) μ (.i (g i)) μ := fun F ρ H v Q k a q => ⟨i, vw_int a, q _ F ρ H Go.refl k (Dp.int _)⟩
/-- == of data of any kind -/
def rEqU (K : PySem.W.Frag) : R2 := rEqD K
theorem rv_eqD {a b : PyData} (h1 : SeqAt.shaped a = true) (h2 : SeqAt.shaped b = true) : RV K (rEqD K) (.d a) (.d b) μ (.b (PyData.eqv a b)) μ := fun F ρ H v u Q k e1 e2 q =>
  ⟨a, b, dp_ex k.ex e1, dp_ex k.ex e2, h1, h2, q _ F ρ H Go.refl k (Dp.bl _)⟩
theorem rv_neD {a b : PyData} (h1 : SeqAt.shaped a = true) (h2 : SeqAt.shaped b = true) : RV K (rNeD K) (.d a) (.d b) μ (.b (!PyData.eqv a b)) μ := fun F ρ H v u Q k e1 e2 q =>
  ⟨a, b, dp_ex k.ex e1, dp_ex k.ex e2, h1, h2, q _ F ρ H Go.refl k (Dp.bl _)⟩
/-- a list of data that is a cell, as data -/
theorem dp_cell {F H : Hp} {ρ : List Addr} {v : V} {xs : List PyData} (k : Ok K F ρ H μ) (h : VW K F ρ v w) (i : Its μ w (xs.map .d)) : Dp K H v (.list xs) := by
  obtain ⟨a, vs, rfl, hs, p⟩ := its_get k h i
  exact .lst hs (dpAll_ex k.ex (pr_dpAll (pr_dun p)))
/-- what == sees: data, or a cell of data -/
inductive Sees (μ : Mu) : W → PyData → Prop
  | d (x : PyData) : Sees μ (.d x) x
  | p {n : Nat} {xs : List PyData} : μ[n]? = some (.lst (xs.map .d)) → Sees μ (.p n) (.list xs)
theorem sees_get {F H : Hp} {ρ : List Addr} {v : V} {a : PyData} (k : Ok K F ρ H μ) (h : VW K F ρ v w) (i : Sees μ w a) : Dp K H v a := by
  cases i with
  | d x => exact dp_ex k.ex h
  | p e => exact dp_cell k h (.p e)
theorem rv_eqS {a b : PyData} (s1 : Sees μ x a) (s2 : Sees μ y b) (h1 : SeqAt.shaped a = true) (h2 : SeqAt.shaped b = true) : RV K (rEqD K) x y μ (.b (PyData.eqv a b)) μ := fun F ρ H v u Q k e1 e2 q =>
  ⟨a, b, sees_get k e1 s1, sees_get k e2 s2, h1, h2, q _ F ρ H Go.refl k (Dp.bl _)⟩
theorem rv_neS {a b : PyData} (s1 : Sees μ x a) (s2 : Sees μ y b) (h1 : SeqAt.shaped a = true) (h2 : SeqAt.shaped b = true) : RV K (rNeD K) x y μ (.b (!PyData.eqv a b)) μ := fun F ρ H v u Q k e1 e2 q =>
  ⟨a, b, sees_get k e1 s1, sees_get k e2 s2, h1, h2, q _ F ρ H Go.refl k (Dp.bl _)⟩
/-- == of scalars -/
def rEqSc : R2 := rEq
def datV : PyData → Option V
  | .none => some .non
  | .bool b => some (.bl b)
  | .int i => some (.int i)
  | .str s => some (.str s)
  | _ => none
theorem dp_datV {F : Hp} {v u : V} {a : PyData} (h : Dp K F v a) (e : datV a = some u) : v = u := by
  cases h <;> simp [datV] at e <;> exact e
theorem rv_eq {a b : PyData} {v u : V} (h1 : datV a = some v) (h2 : datV b = some u) (h : scal v u = true) : RV K rEq (.d a) (.d b) μ (.b (decide (v = u))) μ := fun F ρ H v' u' Q k e1 e2 q => by
  have z1 := dp_datV e1 h1
  have z2 := dp_datV e2 h2
  subst z1
  subst z2
  exact ⟨h, q _ F ρ H Go.refl k (Dp.bl _)⟩
theorem rv_ne {a b : PyData} {v u : V} (h1 : datV a = some v) (h2 : datV b = some u) (h : scal v u = true) : RV K rNe (.d a) (.d b) μ (.b (!decide (v = u))) μ := fun F ρ H v' u' Q k e1 e2 q => by
  have z1 := dp_datV e1 h1
  have z2 := dp_datV e2 h2
  subst z1
  subst z2
  exact ⟨h, q _ F ρ H Go.refl k (Dp.bl _)⟩
/-! ### places -/
def atW (xs : List W) (i : Int) : Option W := (ixN xs.length i).bind fun j => xs[j]?
theorem at_pr {F : Hp} {ρ : List Addr} {vs : List V} {xs : List W} {i : Int} (p : Paired (VW K F ρ) vs xs) (h : atW xs i = some z) : ∃ v, atI vs i = some v ∧ VW K F ρ v z := by
  unfold atW at h
  unfold atI
  rw [pr_len p]
  cases e : ixN xs.length i with
  | none =>
    rw [e] at h
    cases h
  | some j =>
    rw [e] at h
    obtain ⟨v, e1, e2⟩ := pr_get p (show xs[j]? = some z from h)
    exact ⟨v, e1, e2⟩
theorem rv_ix {xs : List W} {i : Int} (h : Seq μ x xs) (e : atW xs i = some z) : RV K (rIx K) x (.i i) μ z μ := fun F ρ H v u Q k a b q => by
  obtain ⟨p, vs, rfl, hs, pr⟩ := seq_get k a h
  obtain ⟨v', e1, e2⟩ := at_pr pr e
  have r := q v' F ρ H Go.refl k e2
  rcases hs with hs | hs
  · exact .inl ⟨p, vs, i, v', rfl, vw_int b, hs, e1, r⟩
  · exact .inr (.inl ⟨p, vs, i, v', rfl, vw_int b, hs, e1, r⟩)
theorem rv_ixS {s : Str} {i : Int} {c : Nat} (hl : s.length ≤ sizeLine) (e : atI s.cps.toList i = some c) : RV K (rIx K) (.s s) (.i i) μ (.s ⟨#[c]⟩) μ := fun F ρ H v u Q k a b q =>
  .inr (.inr ⟨s, i, c, vw_s a, vw_int b, hl, e, q _ F ρ H Go.refl k (Dp.str _)⟩)

/-! ### tests -/
theorem et_test {b : Bool} (h : Ev K te δ μ (.b b) μ') : EvT K (tTest te) δ μ b μ' := fun F ρ H σ Q k s q =>
  h F ρ H σ _ k s fun v F1 ρ1 H1 g1 k1 e1 => ⟨b, vw_b e1, q F1 ρ1 H1 g1 k1⟩
theorem et_B {b : Bool} (h : Ev K te δ μ (.b b) μ') : EvT K (tB te) δ μ b μ' := fun F ρ H σ Q k s q =>
  h F ρ H σ _ k s fun v F1 ρ1 H1 g1 k1 e1 => ⟨b, vw_b e1, q F1 ρ1 H1 g1 k1⟩
/-- truth of a value -/
def tTr (K : PySem.W.Frag) (ta : TE) : TT := fun σ H Q => ta σ H fun x H' => ∃ k, TruV K x H' k ∧ Q k H'
theorem pt_tr {X : Cx} {a : Expr} {ta : TE} (ha : PE X a ta) (he : ∀ whole, isTrue a X.env whole = (do let v ← whole; standAt a.pos; holding [v] (truthy v)) := by intro _; rfl) : PT X a (tTr X.K ta) := pt_truth ha he
inductive Tru (μ : Mu) : W → Bool → Prop
  | b (b : Bool) : Tru μ (.b b) b
  | i (i : Int) : Tru μ (.i i) (i != 0)
  | n : Tru μ (.d .none) false
  | s {s : Str} : s.length ≤ sizeLine → Tru μ (.s s) ((s.length : Int) != 0)
  | q {w : W} {xs : List W} : Seq μ w xs → Tru μ w (!xs.isEmpty)
theorem et_tr {b : Bool} (h : Ev K te δ μ w μ') (t : Tru μ' w b) : EvT K (tTr K te) δ μ b μ' := fun F ρ H σ Q k s q =>
  h F ρ H σ _ k s fun v F1 ρ1 H1 g1 k1 e1 => by
    refine ⟨b, ?_, q F1 ρ1 H1 g1 k1⟩
    cases t with
    | b b =>
      rw [vw_b e1]
      exact rfl
    | i i =>
      rw [vw_int e1]
      exact rfl
    | n =>
      rw [vw_n e1]
      exact rfl
    | s hl =>
      rw [vw_s e1]
      exact ⟨hl, rfl⟩
    | q i =>
      rename_i ys
      obtain ⟨p, vs, rfl, hs, pr⟩ := seq_get k1 e1 i
      have e : vs.isEmpty = ys.isEmpty := by
        cases pr with
        | nil => rfl
        | cons _ _ => rfl
      rcases hs with hs | hs
      · exact .inl ⟨vs, hs, by rw [e]⟩
      · exact .inr (.inl ⟨vs, hs, by rw [e]⟩)
theorem et_and {a b : Bool} (h1 : EvT K tt δ μ a μ1) (h2 : a = true → EvT K tu δ μ1 b μ2) : EvT K (tAnd tt tu) δ μ (a && b) (if a = true then μ2 else μ1) := fun F ρ H σ Q k s q =>
  h1 F ρ H σ _ k s fun F1 ρ1 H1 g1 k1 => by
    cases a with
    | true =>
      show tu σ H1 Q
      exact h2 rfl F1 ρ1 H1 σ Q k1 (sl_go g1 s) fun F2 ρ2 H2 g2 k2 => q F2 ρ2 H2 (g1.trans g2) k2
    | false =>
      show Q false H1
      exact q F1 ρ1 H1 g1 k1
theorem et_or {a b : Bool} (h1 : EvT K tt δ μ a μ1) (h2 : a = false → EvT K tu δ μ1 b μ2) : EvT K (tOr tt tu) δ μ (a || b) (if a = true then μ1 else μ2) := fun F ρ H σ Q k s q =>
  h1 F ρ H σ _ k s fun F1 ρ1 H1 g1 k1 => by
    cases a with
    | true =>
      show Q true H1
      exact q F1 ρ1 H1 g1 k1
    | false =>
      show tu σ H1 Q
      exact h2 rfl F1 ρ1 H1 σ Q k1 (sl_go g1 s) fun F2 ρ2 H2 g2 k2 => q F2 ρ2 H2 (g1.trans g2) k2
/-- nothing is changed by either -/
theorem et_and0 {a b : Bool} (h1 : EvT K tt δ μ a μ) (h2 : a = true → EvT K tu δ μ b μ) : EvT K (tAnd tt tu) δ μ (a && b) μ := by
  have h := et_and h1 h2
  cases a <;> exact h
theorem et_or0 {a b : Bool} (h1 : EvT K tt δ μ a μ) (h2 : a = false → EvT K tu δ μ b μ) : EvT K (tOr tt tu) δ μ (a || b) μ := by
  have h := et_or h1 h2
  cases a <;> exact h
theorem et_not {a : Bool} (h1 : EvT K tt δ μ a μ1) : EvT K (tNot tt) δ μ (!a) μ1 := fun F ρ H σ Q k s q => h1 F ρ H σ _ k s q
theorem et_is {a b : Bool} (h : EvT K tt δ μ a μ') (e : a = b) : EvT K tt δ μ b μ' := e ▸ h
/-- bools as values -/
theorem ev_andV {a b : Bool} (h1 : Ev K ta δ μ (.b a) μ) (h2 : a = true → Ev K tb δ μ (.b b) μ) : Ev K (tAndV ta tb) δ μ (.b (a && b)) μ := fun F ρ H σ Q k s q =>
  h1 F ρ H σ _ k s fun v F1 ρ1 H1 g1 k1 e1 => by
    refine ⟨a, vw_b e1, ?_⟩
    cases a with
    | true =>
      show tb σ H1 Q
      exact h2 rfl F1 ρ1 H1 σ Q k1 (sl_go g1 s) fun v F2 ρ2 H2 g2 k2 e2 => q v F2 ρ2 H2 (g1.trans g2) k2 e2
    | false =>
      show Q (.bl false) H1
      exact q _ F1 ρ1 H1 g1 k1 (Dp.bl _)
theorem ev_orV {a b : Bool} (h1 : Ev K ta δ μ (.b a) μ) (h2 : a = false → Ev K tb δ μ (.b b) μ) : Ev K (tOrV ta tb) δ μ (.b (a || b)) μ := fun F ρ H σ Q k s q =>
  h1 F ρ H σ _ k s fun v F1 ρ1 H1 g1 k1 e1 => by
    refine ⟨a, vw_b e1, ?_⟩
    cases a with
    | true =>
      show Q (.bl true) H1
      exact q _ F1 ρ1 H1 g1 k1 (Dp.bl _)
    | false =>
      show tb σ H1 Q
      exact h2 rfl F1 ρ1 H1 σ Q k1 (sl_go g1 s) fun v F2 ρ2 H2 g2 k2 e2 => q v F2 ρ2 H2 (g1.trans g2) k2 e2
theorem ev_notV {a : Bool} (h1 : Ev K ta δ μ (.b a) μ1) : Ev K (tNotV ta) δ μ (.b (!a)) μ1 := fun F ρ H σ Q k s q =>
  h1 F ρ H σ _ k s fun v F1 ρ1 H1 g1 k1 e1 => ⟨a, vw_b e1, q _ F1 ρ1 H1 g1 k1 (Dp.bl _)⟩
theorem ev_if {a : Bool} (h1 : EvT K tt δ μ a μ1) (h2 : a = true → Ev K ta δ μ1 w μ2) (h3 : a = false → Ev K tb δ μ1 w μ2) : Ev K (tIf tt ta tb) δ μ w μ2 := fun F ρ H σ Q k s q =>
  h1 F ρ H σ _ k s fun F1 ρ1 H1 g1 k1 => by
    cases a with
    | true =>
      show ta σ H1 Q
      exact h2 rfl F1 ρ1 H1 σ Q k1 (sl_go g1 s) fun v F2 ρ2 H2 g2 k2 e2 => q v F2 ρ2 H2 (g1.trans g2) k2 e2
    | false =>
      show tb σ H1 Q
      exact h3 rfl F1 ρ1 H1 σ Q k1 (sl_go g1 s) fun v F2 ρ2 H2 g2 k2 e2 => q v F2 ρ2 H2 (g1.trans g2) k2 e2
/-- a < b < c -/
theorem ev_chain {r' : R2} {a b : Bool} (ha : Ev K ta δ μ x μ) (hb : Ev K tb δ μ y μ) (hr : RV K r x y μ (.b a) μ) (hc : a = true → Ev K tc δ μ z μ) (hr' : a = true → RV K r' y z μ (.b b) μ) : Ev K (tChain r r' ta tb tc) δ μ (.b (a && b)) μ := fun F ρ H σ Q k s q =>
  ha F ρ H σ _ k s fun v F1 ρ1 H1 g1 k1 e1 => hb F1 ρ1 H1 σ _ k1 (sl_go g1 s) fun u F2 ρ2 H2 g2 k2 e2 =>
    hr F2 ρ2 H2 v u _ k2 (vw_go g2 e1) e2 fun v' F3 ρ3 H3 g3 k3 e3 => by
      refine ⟨a, vw_b e3, ?_⟩
      cases a with
      | true =>
        show tc σ H3 _
        exact hc rfl F3 ρ3 H3 σ _ k3 (sl_go g3 (sl_go g2 (sl_go g1 s))) fun w F4 ρ4 H4 g4 k4 e4 => hr' rfl F4 ρ4 H4 u w Q k4 (vw_go g4 (vw_go g3 e2)) e4 fun v5 F5 ρ5 H5 g5 k5 e5 =>
          q v5 F5 ρ5 H5 ((((g1.trans g2).trans g3).trans g4).trans g5) k5 e5
      | false =>
        show Q (.bl false) H3
        exact q _ F3 ρ3 H3 ((g1.trans g2).trans g3) k3 (Dp.bl _)

/-! ### displays -/
theorem ok_tup {F H : Hp} {ρ : List Addr} {vs : List V} {xs : List PyData} (k : Ok K F ρ H μ) (pr : Paired (Dp K F) vs xs) {p : Addr} (h : H p = none) {Q : VK} (q : ∀ v F' ρ' H', Go F ρ H F' ρ' H' → Ok K F' ρ' H' μ → VW K F' ρ' v (.d (.tuple xs)) → Q v H') : Q (.ref p) (upd H p (.tup vs)) := by
  obtain ⟨k2, g2⟩ := k.freeze (o := .tup vs) h
  exact q _ _ _ _ g2 k2 (wv_t (SqT.of upd_same) (pr_mono (fun _ _ => dp_ex g2.ex) pr))
theorem ok_lst {F H : Hp} {ρ : List Addr} {vs : List V} {xs : List PyData} (k : Ok K F ρ H μ) (pr : Paired (Dp K F) vs xs) {p : Addr} (h : H p = none) {Q : VK} (q : ∀ v F' ρ' H', Go F ρ H F' ρ' H' → Ok K F' ρ' H' μ → VW K F' ρ' v (.d (.list xs)) → Q v H') : Q (.ref p) (upd H p (.lst vs)) := by
  obtain ⟨k2, g2⟩ := k.freeze (o := .lst vs) h
  exact q _ _ _ _ g2 k2 (wv_l (SqL.of upd_same) (pr_mono (fun _ _ => dp_ex g2.ex) pr))
theorem ok_cel {F H : Hp} {ρ : List Addr} {vs : List V} {ws : List W} (k : Ok K F ρ H μ) (pr : Paired (VW K F ρ) vs ws) {p : Addr} (h : H p = none) {Q : VK} (q : ∀ v F' ρ' H', Go F ρ H F' ρ' H' → Ok K F' ρ' H' (μ ++ [.lst ws]) → VW K F' ρ' v (.p μ.length) → Q v H') : Q (.ref p) (upd H p (.lst vs)) := by
  have g : Go F ρ H F (ρ ++ [p]) (upd H p (.lst vs)) := (Ok.push (c := .gone) (o := .lst vs) k h trivial).2.1
  obtain ⟨k2, g2, e⟩ := k.push (o := .lst vs) (c := .lst ws) h ⟨k.ex.un h, vs, upd_same, vws_go g pr⟩
  exact q _ _ _ _ g2 k2 ⟨p, e, rfl⟩
theorem ev_tup {xs : List PyData} (ha : EvA K tl δ μ ws μ1) (e : ws = xs.map .d) (hz : xs.length ≤ sizeLine) : Ev K (tTup tl) δ μ (.d (.tuple xs)) μ1 := fun F ρ H σ Q k s q =>
  ha F ρ H σ _ k s fun vs F1 ρ1 H1 g1 k1 e1 => by
    subst e
    have pr := pr_dun e1
    exact ⟨by rw [pr_len pr]; exact hz, fun p hp => ok_tup k1 pr hp fun v F2 ρ2 H2 g2 k2 e2 => q v F2 ρ2 H2 (g1.trans g2) k2 e2⟩
theorem ev_lstD {xs : List PyData} (ha : EvA K tl δ μ ws μ1) (e : ws = xs.map .d) (hz : xs.length ≤ sizeLine) : Ev K (tLst tl) δ μ (.d (.list xs)) μ1 := fun F ρ H σ Q k s q =>
  ha F ρ H σ _ k s fun vs F1 ρ1 H1 g1 k1 e1 => by
    subst e
    have pr := pr_dun e1
    exact ⟨by rw [pr_len pr]; exact hz, fun p hp => ok_lst k1 pr hp fun v F2 ρ2 H2 g2 k2 e2 => q v F2 ρ2 H2 (g1.trans g2) k2 e2⟩
theorem ev_lstP (ha : EvA K tl δ μ ws μ1) (hz : ws.length ≤ sizeLine) : Ev K (tLst tl) δ μ (.p μ1.length) (μ1 ++ [.lst ws]) := fun F ρ H σ Q k s q =>
  ha F ρ H σ _ k s fun vs F1 ρ1 H1 g1 k1 e1 => ⟨by rw [pr_len e1]; exact hz, fun p hp => ok_cel k1 e1 hp fun v F2 ρ2 H2 g2 k2 e2 => q v F2 ρ2 H2 (g1.trans g2) k2 e2⟩
end

/-! ### statements -/
inductive SO where
  | nx (δ : Dl) (μ : Mu)
  | ret (w : W) (μ : Mu)
  | brk (δ : Dl) (μ : Mu)
  | ct (δ : Dl) (μ : Mu)
  | exc (C : Value) (δ : Dl) (μ : Mu)
def Post (K : PySem.W.Frag) (X : WX) (F : Hp) (ρ : List Addr) (H : Hp) (D : Ends) (o : SO) : Prop := match o with
  | .nx δ μ => ∀ σ' F' ρ' H', Go F ρ H F' ρ' H' → Ok K F' ρ' H' μ → Sl K F' ρ' σ' δ → D.nx σ' H'
  | .brk δ μ => ∀ σ' F' ρ' H', Go F ρ H F' ρ' H' → Ok K F' ρ' H' μ → Sl K F' ρ' σ' δ → D.bk σ' H'
  | .ct δ μ => ∀ σ' F' ρ' H', Go F ρ H F' ρ' H' → Ok K F' ρ' H' μ → Sl K F' ρ' σ' δ → D.ct σ' H'
  | .ret w μ => ∀ v F' ρ' H', Go F ρ H F' ρ' H' → Ok K F' ρ' H' μ → VW K F' ρ' v w → D.rt v H'
  | .exc C δ μ => ∀ σ' F' ρ' H', Go F ρ H F' ρ' H' → Ok K F' ρ' H' μ → Sl K F' ρ' σ' δ → X C none σ' H'
/-- from the names δ and the store μ the statement comes to an end of which O is so -/
def St (K : PySem.W.Frag) (X : WX) (t : TS) (δ : Dl) (μ : Mu) (O : SO → Prop) : Prop :=
  ∀ (F : Hp) (ρ : List Addr) (H : Hp) (σ : L2.St) (D : Ends), Ok K F ρ H μ → Sl K F ρ σ δ → (∀ o, O o → Post K X F ρ H D o) → t D σ H
theorem Post.go {K : PySem.W.Frag} {X : WX} {F F1 H H1 : Hp} {ρ ρ1 : List Addr} {D : Ends} {o : SO} (g : Go F ρ H F1 ρ1 H1) (h : Post K X F ρ H D o) : Post K X F1 ρ1 H1 D o := by
  cases o with
  | nx δ μ => exact fun σ' F' ρ' H' g' => h σ' F' ρ' H' (g.trans g')
  | brk δ μ => exact fun σ' F' ρ' H' g' => h σ' F' ρ' H' (g.trans g')
  | ct δ μ => exact fun σ' F' ρ' H' g' => h σ' F' ρ' H' (g.trans g')
  | ret w μ => exact fun σ' F' ρ' H' g' => h σ' F' ρ' H' (g.trans g')
  | exc C δ μ => exact fun σ' F' ρ' H' g' => h σ' F' ρ' H' (g.trans g')
/-- an expression that raises -/
def EvX (K : PySem.W.Frag) (X : WX) (te : TE) (δ : Dl) (μ : Mu) (C : Value) (μ' : Mu) : Prop :=
  ∀ (F : Hp) (ρ : List Addr) (H : Hp) (σ : L2.St) (Q : VK), Ok K F ρ H μ → Sl K F ρ σ δ →
    (∀ F' ρ' H', Go F ρ H F' ρ' H' → Ok K F' ρ' H' μ' → X C none σ H') → te σ H Q
/-- behind a first part: the rest -/
def Sq (K : PySem.W.Frag) (X : WX) (u : TS) (O : SO → Prop) : SO → Prop
  | .nx δ μ => St K X u δ μ O
  | o => O o

section
variable {K : PySem.W.Frag} {X : WX} {δ δ1 δ2 : Dl} {μ μ1 μ2 : Mu} {t u : TS} {te ta tb : TE} {tt : TT} {w x y z : W} {O O' : SO → Prop} {C : Value}
theorem st_mono (h : St K X t δ μ O) (e : ∀ o, O o → O' o) : St K X t δ μ O' := fun F ρ H σ D k s q => h F ρ H σ D k s fun o ho => q o (e o ho)
theorem st_seq (h : St K X t δ μ (Sq K X u O)) : St K X (tSeq t u) δ μ O := fun F ρ H σ D k s q =>
  h F ρ H σ { D with nx := u D } k s fun o ho => by
    cases o with
    | nx δ1 μ1 => exact fun σ1 F1 ρ1 H1 g1 k1 s1 => ho F1 ρ1 H1 σ1 D k1 s1 fun o ho => (q o ho).go g1
    | brk δ1 μ1 => exact q _ ho
    | ct δ1 μ1 => exact q _ ho
    | ret w μ1 => exact q _ ho
    | exc C δ1 μ1 => exact q _ ho
theorem st_next (h : O (.nx δ μ)) : St K X tNext δ μ O := fun F ρ H σ D k s q => q _ h σ F ρ H Go.refl k s
theorem st_break (h : O (.brk δ μ)) : St K X tBreak δ μ O := fun F ρ H σ D k s q => q _ h σ F ρ H Go.refl k s
theorem st_cont (h : O (.ct δ μ)) : St K X tCont δ μ O := fun F ρ H σ D k s q => q _ h σ F ρ H Go.refl k s
theorem st_ret (e : Ev K te δ μ w μ1) (h : O (.ret w μ1)) : St K X (tRet te) δ μ O := fun F ρ H σ D k s q => e F ρ H σ _ k s fun v F1 ρ1 H1 g1 k1 e1 => q _ h v F1 ρ1 H1 g1 k1 e1
theorem st_retN (h : O (.ret (.d .none) μ)) : St K X tRetN δ μ O := fun F ρ H σ D k s q => q _ h .non F ρ H Go.refl k Dp.non
theorem st_retX (e : EvX K X te δ μ C μ1) (h : O (.exc C δ μ1)) : St K X (tRet te) δ μ O := fun F ρ H σ D k s q => e F ρ H σ _ k s fun F1 ρ1 H1 g1 k1 => q _ h σ F1 ρ1 H1 g1 k1 (sl_go g1 s)
theorem st_drop (e : Ev K te δ μ w μ1) (h : O (.nx δ μ1)) : St K X (tDrop te) δ μ O := fun F ρ H σ D k s q => e F ρ H σ _ k s fun v F1 ρ1 H1 g1 k1 e1 => q _ h σ F1 ρ1 H1 g1 k1 (sl_go g1 s)
theorem st_dropX (e : EvX K X te δ μ C μ1) (h : O (.exc C δ μ1)) : St K X (tDrop te) δ μ O := fun F ρ H σ D k s q => e F ρ H σ _ k s fun F1 ρ1 H1 g1 k1 => q _ h σ F1 ρ1 H1 g1 k1 (sl_go g1 s)
theorem st_if {b : Bool} (e : EvT K tt δ μ b μ1) (h1 : b = true → St K X t δ μ1 O) (h2 : b = false → St K X u δ μ1 O) : St K X (tIfS tt t u) δ μ O := fun F ρ H σ D k s q =>
  e F ρ H σ _ k s fun F1 ρ1 H1 g1 k1 => by
    cases b with
    | true =>
      show t D σ H1
      exact h1 rfl F1 ρ1 H1 σ D k1 (sl_go g1 s) fun o ho => (q o ho).go g1
    | false =>
      show u D σ H1
      exact h2 rfl F1 ρ1 H1 σ D k1 (sl_go g1 s) fun o ho => (q o ho).go g1
theorem st_ifT (e : EvT K tt δ μ true μ1) (h1 : St K X t δ μ1 O) : St K X (tIfS tt t u) δ μ O := st_if e (fun _ => h1) fun z => nomatch z
theorem st_ifF (e : EvT K tt δ μ false μ1) (h1 : St K X u δ μ1 O) : St K X (tIfS tt t u) δ μ O := st_if e (fun z => nomatch z) fun _ => h1
/-- less is known of the names -/
def Le (δ δ' : Dl) : Prop := Paired (fun (a b : Option W) => ∀ x, b = some x → a = some x) δ δ'
theorem sl_le {F : Hp} {ρ : List Addr} {σ : L2.St} {δ' : Dl} (l : Le δ δ') (s : Sl K F ρ σ δ) : Sl K F ρ σ δ' := by
  induction s generalizing δ' with
  | nil =>
    cases l
    exact .nil
  | cons r t ih =>
    cases l with
    | cons a b => exact .cons (fun x e => r x (a x e)) (ih b)
theorem st_le {δ' : Dl} (h : St K X t δ' μ O) (l : Le δ δ') : St K X t δ μ O := fun F ρ H σ D k s q => h F ρ H σ D k (sl_le l s) q
theorem ev_le {δ' : Dl} (h : Ev K te δ' μ w μ1) (l : Le δ δ') : Ev K te δ μ w μ1 := fun F ρ H σ Q k s q => h F ρ H σ Q k (sl_le l s) q
theorem le_refl : ∀ δ : Dl, Le δ δ
  | [] => .nil
  | _ :: δ => .cons (fun _ e => e) (le_refl δ)
theorem le_cons {a : Option W} {δ δ' : Dl} (h : Le δ δ') : Le (a :: δ) (a :: δ') := .cons (fun _ e => e) h
theorem le_non {a : Option W} {δ δ' : Dl} (h : Le δ δ') : Le (a :: δ) (none :: δ') := .cons (fun _ e => nomatch e) h

/-! ### targets -/
def EvG (K : PySem.W.Frag) (g : TG) (w : W) (δ : Dl) (μ : Mu) (δ' : Dl) (μ' : Mu) : Prop :=
  ∀ (F : Hp) (ρ : List Addr) (H : Hp) (σ : L2.St) (v : V) (Q : L2.St → Hp → Prop), Ok K F ρ H μ → Sl K F ρ σ δ → VW K F ρ v w →
    (∀ σ' F' ρ' H', Go F ρ H F' ρ' H' → Ok K F' ρ' H' μ' → Sl K F' ρ' σ' δ' → Q σ' H') → g v σ H Q
def EvGs (K : PySem.W.Frag) (g : TGs) (ws : List W) (δ : Dl) (μ : Mu) (δ' : Dl) (μ' : Mu) : Prop :=
  ∀ (F : Hp) (ρ : List Addr) (H : Hp) (σ : L2.St) (vs : List V) (Q : L2.St → Hp → Prop), Ok K F ρ H μ → Sl K F ρ σ δ → Paired (VW K F ρ) vs ws →
    (∀ σ' F' ρ' H', Go F ρ H F' ρ' H' → Ok K F' ρ' H' μ' → Sl K F' ρ' σ' δ' → Q σ' H') → g vs σ H Q
theorem eg_name {i : Nat} : EvG K (gName i) w δ μ (δ.set i (some w)) μ := fun F ρ H σ v Q k s e q => q _ F ρ H Go.refl k (sl_set s e)
theorem eg_skip {i : Nat} : EvG K (gName i) w δ μ (δ.set i none) μ := fun F ρ H σ v Q k s e q => q _ F ρ H Go.refl k (sl_un s)
theorem egs_nil : EvGs K gNil [] δ μ δ μ := fun F ρ H σ vs Q k s e q => ⟨pr_nilR e, q σ F ρ H Go.refl k s⟩
theorem egs_cons {g : TG} {gs : TGs} {ws : List W} (h1 : EvG K g w δ μ δ1 μ1) (h2 : EvGs K gs ws δ1 μ1 δ2 μ2) : EvGs K (gCons g gs) (w :: ws) δ μ δ2 μ2 := fun F ρ H σ vs Q k s e q => by
  cases e with
  | cons a b => exact ⟨_, _, rfl, h1 F ρ H σ _ _ k s a fun σ1 F1 ρ1 H1 g1 k1 s1 => h2 F1 ρ1 H1 σ1 _ Q k1 s1 (vws_go g1 b) fun σ2 F2 ρ2 H2 g2 k2 s2 => q σ2 F2 ρ2 H2 (g1.trans g2) k2 s2⟩
theorem eg_tup {n : Nat} {gs : TGs} {xs : List PyData} (e : xs.length = n) (h : EvGs K gs (xs.map .d) δ μ δ1 μ1) : EvG K (gTup K n gs) (.d (.tuple xs)) δ μ δ1 μ1 := fun F ρ H σ v Q k s hv q => by
  obtain ⟨a, vs, rfl, hs, p⟩ := vw_t hv
  exact ⟨a, vs, rfl, ex_t k.ex hs, by rw [pr_len p]; exact e, h F ρ H σ vs Q k s (pr_dmap p) q⟩
theorem st_asg {g : TG} (e : Ev K te δ μ w μ1) (hg : EvG K g w δ μ1 δ1 μ2) (h : O (.nx δ1 μ2)) : St K X (tAsg te g) δ μ O := fun F ρ H σ D k s q =>
  e F ρ H σ _ k s fun v F1 ρ1 H1 g1 k1 e1 => hg F1 ρ1 H1 σ v _ k1 (sl_go g1 s) e1 fun σ2 F2 ρ2 H2 g2 k2 s2 => q _ h σ2 F2 ρ2 H2 (g1.trans g2) k2 s2
theorem st_asgX {g : TG} (e : EvX K X te δ μ C μ1) (h : O (.exc C δ μ1)) : St K X (tAsg te g) δ μ O := fun F ρ H σ D k s q => e F ρ H σ _ k s fun F1 ρ1 H1 g1 k1 => q _ h σ F1 ρ1 H1 g1 k1 (sl_go g1 s)
theorem st_set {i : Nat} (e : Ev K te δ μ w μ1) (h : O (.nx (δ.set i (some w)) μ1)) : St K X (tAsg te (gName i)) δ μ O := st_asg e eg_name h
/-- xs[i] = e, xs a cell -/
theorem eg_subL {n j : Nat} {i : Int} {xs : List W} (ha : Ev K ta δ μ (.p n) μ1) (hb : Ev K tb δ μ1 (.i i) μ2) (e : μ2[n]? = some (.lst xs)) (hi : ixN xs.length i = some j) :
    EvG K (gSub ta tb rSetL) w δ μ δ (μ2.set n (.lst (xs.set j w))) := fun F ρ H σ v Q k s hv q =>
  ha F ρ H σ _ k s fun v1 F1 ρ1 H1 g1 k1 e1 => hb F1 ρ1 H1 σ _ k1 (sl_go g1 s) fun v2 F2 ρ2 H2 g2 k2 e2 => by
    obtain ⟨a, ea, rfl⟩ := vw_go g2 e1
    obtain ⟨b, eb, hF, vs, hb, pr⟩ := k2.at e
    rw [ea] at eb
    cases eb
    have hv2 := vw_go g2 (vw_go g1 hv)
    obtain ⟨k3, g3⟩ := k2.put (o := .lst (vs.set j v)) (c := .lst (xs.set j w)) ea hF ⟨hF, _, upd_same, pr_set hv2 j pr⟩
    exact ⟨a, vs, i, j, rfl, vw_int e2, hb, by rw [pr_len pr]; exact hi, q σ _ _ _ ((g1.trans g2).trans g3) k3 (sl_go g3 (sl_go g2 (sl_go g1 s)))⟩
end

/-! ### walks -/
/-- J yields ws, one by one, whatever else is done, while the store keeps Kp -/
structure Runs (K : PySem.W.Frag) (J : It) (F : Hp) (ρ : List Addr) (H : Hp) (ws : List W) (Kp : Mu → Prop) : Prop where
  go : ∀ (i : Nat) (w : W) (F2 : Hp) (ρ2 : List Addr) (H2 : Hp) (μ2 : Mu), ws[i]? = some w → Go F ρ H F2 ρ2 H2 → Ok K F2 ρ2 H2 μ2 → Kp μ2 →
    J.go i H2 ∧ ∀ x H3, J.yld i H2 x H3 → ∃ F3 ρ3, Go F2 ρ2 H2 F3 ρ3 H3 ∧ Ok K F3 ρ3 H3 μ2 ∧ VW K F3 ρ3 x w
  stop : ∀ (F2 : Hp) (ρ2 : List Addr) (H2 : Hp) (μ2 : Mu), Go F ρ H F2 ρ2 H2 → Ok K F2 ρ2 H2 μ2 → Kp μ2 → J.stop ws.length H2
def EvI (K : PySem.W.Frag) (wi : TI) (δ : Dl) (μ : Mu) (ws : List W) (Kp : Mu → Prop) (μ' : Mu) : Prop :=
  ∀ (F : Hp) (ρ : List Addr) (H : Hp) (σ : L2.St) (R : It → Hp → Prop), Ok K F ρ H μ → Sl K F ρ σ δ →
    (∀ J F' ρ' H', Go F ρ H F' ρ' H' → Ok K F' ρ' H' μ' → Runs K J F' ρ' H' ws Kp → R J H') → wi σ H R
/-- what the store must keep for the items of a list or tuple to stay -/
def KpOf : W → List W → Mu → Prop
  | .p n, xs, μ => μ[n]? = some (.lst xs)
  | _, _, _ => True
theorem its_kp {μ μ2 : Mu} {w : W} {xs : List W} (h : Its μ w xs) (k : KpOf w xs μ2) : Its μ2 w xs := by
  cases h with
  | d ys => exact .d ys
  | p e => exact .p k
section
variable {K : PySem.W.Frag} {X : WX} {δ δ1 δ2 : Dl} {μ μ1 μ2 : Mu} {te : TE} {ta : TA} {w : W} {ws : List W} {O : SO → Prop} {wi : TI} {g : TG} {tb : TS} {Kp : Mu → Prop}
theorem ei_list (e : Ev K te δ μ w μ1) (h : Its μ1 w ws) : EvI K (iList K te) δ μ ws (KpOf w ws) μ1 := fun F ρ H σ R k s q =>
  e F ρ H σ _ k s fun v F1 ρ1 H1 g1 k1 e1 => by
    obtain ⟨a, vs, rfl, hs, pr⟩ := its_get k1 e1 h
    refine ⟨a, rfl, ⟨vs, hs⟩, q (Itl K a) F1 ρ1 H1 g1 k1 ⟨fun i wi F2 ρ2 H2 μ2 hi g2 k2 kp => ?_, fun F2 ρ2 H2 μ2 g2 k2 kp => ?_⟩⟩
    · obtain ⟨b, us, eb, hs2, pr2⟩ := its_get k2 (vw_go g2 e1) (its_kp h kp)
      cases eb
      obtain ⟨u, hu, ru⟩ := pr_get pr2 hi
      exact ⟨⟨us, u, hs2, hu⟩, fun x H3 y => ⟨F2, ρ2, by rw [y.1]; exact Go.refl, by rw [y.1]; exact k2, by
        have z := y.2 us hs2
        rw [hu] at z
        cases z
        exact ru⟩⟩
    · obtain ⟨b, us, eb, hs2, pr2⟩ := its_get k2 (vw_go g2 e1) (its_kp h kp)
      cases eb
      exact ⟨us, hs2, by rw [pr_len pr2]; exact Nat.le_refl _⟩
theorem ei_tup {xs : List PyData} (e : Ev K te δ μ (.d (.tuple xs)) μ1) : EvI K (iTup K te) δ μ (xs.map .d) (fun _ => True) μ1 := fun F ρ H σ R k s q =>
  e F ρ H σ _ k s fun v F1 ρ1 H1 g1 k1 e1 => by
    obtain ⟨a, vs, rfl, hs, pr⟩ := vw_t e1
    refine ⟨a, rfl, ⟨vs, ex_t k1.ex hs⟩, q (Itt K a) F1 ρ1 H1 g1 k1 ⟨fun i wi F2 ρ2 H2 μ2 hi g2 k2 kp => ?_, fun F2 ρ2 H2 μ2 g2 k2 kp => ?_⟩⟩
    · obtain ⟨u, hu, ru⟩ := pr_get (pr_dmap (ρ := ρ1) pr) hi
      have hs2 := ex_t k2.ex (ex_t g2.ex hs)
      exact ⟨⟨vs, u, hs2, hu⟩, fun x H3 y => ⟨F2, ρ2, by rw [y.1]; exact Go.refl, by rw [y.1]; exact k2, by
        have z := y.2 vs hs2
        rw [hu] at z
        cases z
        exact vw_go g2 ru⟩⟩
    · exact ⟨vs, ex_t k2.ex (ex_t g2.ex hs), by rw [pr_len pr, List.length_map]; exact Nat.le_refl _⟩
def rangeW (lo : Int) (n : Nat) : List W := (List.range n).map fun i => .i (lo + (i : Nat))
theorem rangeW_len {lo : Int} {n : Nat} : (rangeW lo n).length = n := by simp [rangeW]
theorem runs_range {F : Hp} {ρ : List Addr} {H : Hp} {lo : Int} {n : Nat} : Runs K (Itr lo n) F ρ H (rangeW lo n) (fun _ => True) := by
  refine ⟨fun i wi F2 ρ2 H2 μ2 hi g2 k2 kp => ?_, fun F2 ρ2 H2 μ2 g2 k2 kp => ?_⟩
  · have hl : i < n := by
      obtain ⟨q, _⟩ := List.getElem?_eq_some_iff.mp hi
      rw [rangeW_len] at q
      exact q
    refine ⟨hl, fun x H3 y => ⟨F2, ρ2, by rw [y.1]; exact Go.refl, by rw [y.1]; exact k2, ?_⟩⟩
    rw [y.2]
    have z : wi = .i (lo + (i : Nat)) := by
      unfold rangeW at hi
      rw [List.getElem?_map, List.getElem?_range hl] at hi
      exact (Option.some.inj hi).symm
    rw [z]
    exact Dp.int _
  · show n ≤ (rangeW lo n).length
    rw [rangeW_len]
    exact Nat.le_refl _
theorem ei_rng1 {j : Int} (e : EvA K ta δ μ [.i j] μ1) (h1 : -(2 ^ 62) ≤ j) (h2 : j < 2 ^ 62) : EvI K (iRng1 ta) δ μ (rangeW 0 j.toNat) (fun _ => True) μ1 := fun F ρ H σ R k s q =>
  e F ρ H σ _ k s fun vs F1 ρ1 H1 g1 k1 e1 => by
    cases e1 with
    | cons a b =>
      have z := vw_int a
      have z2 := pr_nilR b
      subst z
      subst z2
      exact ⟨j, rfl, h1, h2, q _ F1 ρ1 H1 g1 k1 runs_range⟩
theorem ei_rng2 {i j : Int} (e : EvA K ta δ μ [.i i, .i j] μ1) (h : -(2 ^ 62) ≤ i ∧ i < 2 ^ 62 ∧ -(2 ^ 62) ≤ j ∧ j < 2 ^ 62) : EvI K (iRng2 ta) δ μ (rangeW i (j - i).toNat) (fun _ => True) μ1 := fun F ρ H σ R k s q =>
  e F ρ H σ _ k s fun vs F1 ρ1 H1 g1 k1 e1 => by
    cases e1 with
    | cons a b =>
      cases b with
      | cons b c =>
        have z := vw_int a
        have z1 := vw_int b
        have z2 := pr_nilR c
        subst z
        subst z1
        subst z2
        exact ⟨i, j, rfl, h, q _ F1 ρ1 H1 g1 k1 runs_range⟩
/-- what a turn's end must be -/
def Lp (P : Dl → Mu → Prop) (O : SO → Prop) : SO → Prop
  | .nx δ μ => P δ μ
  | .ct δ μ => P δ μ
  | .brk δ μ => O (.nx δ μ)
  | .ret w μ => O (.ret w μ)
  | .exc C δ μ => O (.exc C δ μ)
theorem st_for (hi : EvI K wi δ μ ws Kp μ1) (P : Nat → Dl → Mu → Prop) (h0 : P 0 δ μ1) (hk : ∀ i δ μ, P i δ μ → Kp μ)
    (hs : ∀ (i : Nat) (w : W) (δi : Dl) (μi : Mu), ws[i]? = some w → P i δi μi → ∃ δ2 μ2, EvG K g w δi μi δ2 μ2 ∧ St K X tb δ2 μ2 (Lp (P (i + 1)) O))
    (hd : ∀ δi μi, P ws.length δi μi → O (.nx δi μi)) : St K X (tFor wi g tb) δ μ O := fun F ρ H σ D k s q =>
  hi F ρ H σ _ k s fun J F1 ρ1 H1 g1 k1 r1 => by
    refine ⟨fun i m σi Hi => m = ws.length - i ∧ i ≤ ws.length ∧ ∃ Fi ρi δi μi, Go F1 ρ1 H1 Fi ρi Hi ∧ Ok K Fi ρi Hi μi ∧ Sl K Fi ρi σi δi ∧ P i δi μi, ⟨_, rfl, Nat.zero_le _, F1, ρ1, δ, μ1, Go.refl, k1, sl_go g1 s, h0⟩, ?_⟩
    rintro i m σi Hi ⟨rfl, hi, Fi, ρi, δi, μi, gi, ki, si, pi⟩
    by_cases hlt : i < ws.length
    · obtain ⟨hgo, hy⟩ := r1.go i ws[i] Fi ρi Hi μi (List.getElem?_eq_getElem hlt) gi ki (hk i δi μi pi)
      obtain ⟨δ2, μ2, hg, hb⟩ := hs i ws[i] δi μi (List.getElem?_eq_getElem hlt) pi
      refine .inr ⟨hgo, fun σ' H' => ∃ F' ρ' δ' μ', Go F1 ρ1 H1 F' ρ' H' ∧ Ok K F' ρ' H' μ' ∧ Sl K F' ρ' σ' δ' ∧ P (i + 1) δ' μ', fun σ' H' z => ⟨ws.length - (i + 1), by omega, rfl, hlt, z⟩, fun x H3 y => ?_⟩
      obtain ⟨F3, ρ3, g3, k3, v3⟩ := hy x H3 y
      refine hg F3 ρ3 H3 σi x _ k3 (sl_go g3 si) v3 fun σ4 F4 ρ4 H4 g4 k4 s4 => ?_
      refine hb F4 ρ4 H4 σ4 _ k4 s4 fun o ho => ?_
      have gg := (gi.trans g3).trans g4
      cases o with
      | nx δ5 μ5 => exact fun σ' F' ρ' H' g' k' s' => ⟨F', ρ', δ5, μ5, gg.trans g', k', s', ho⟩
      | ct δ5 μ5 => exact fun σ' F' ρ' H' g' k' s' => ⟨F', ρ', δ5, μ5, gg.trans g', k', s', ho⟩
      | brk δ5 μ5 => exact Post.go (g1.trans gg) (q _ ho)
      | ret w μ5 => exact Post.go (g1.trans gg) (q _ ho)
      | exc C δ5 μ5 => exact Post.go (g1.trans gg) (q _ ho)
    · have e : i = ws.length := by omega
      subst e
      exact .inl ⟨r1.stop Fi ρi Hi μi gi ki (hk _ δi μi pi), q _ (hd δi μi pi) σi Fi ρi Hi (g1.trans gi) ki si⟩
end
end DL
set_option Elab.async false
set_option linter.all false
set_option maxRecDepth 100000
set_option maxHeartbeats 2000000
namespace DL
open PySem PySem.Spec PyProof.Rows L2

section
variable {K : PySem.W.Frag} {F F' F1 H H' H1 : Hp} {ρ ρ' ρ1 : List Addr} {μ : Mu} {D : Addr} {o : HO} {c : Cell}
theorem Go.other (g : Go F ρ H F' ρ' H') (h : H D = none) : Go F ρ H F' ρ' (upd H' D o) :=
  ⟨g.ex, g.pre, fun b u e hb => by
    rw [upd_ne (ne_of_none e h)]
    exact g.fr b u e hb, g.nw, g.nf, fun b z => by
    by_cases q : b = D
    · subst q
      rw [upd_same]
      intro z
      cases z
    · rw [upd_ne q]
      exact g.tr b z⟩
theorem Ok.other (k : Ok K F ρ H μ) (hF : F D = none) (hr : D ∉ ρ) : Ok K F ρ (upd H D o) μ :=
  ⟨k.ex.updR hF, k.len, k.nd, fun a ha => by
    rw [upd_ne (fun q => hr (by rw [← q]; exact ha))]
    exact k.tr a ha, fun n a c e1 e2 => cell_ex (Ex.refl F) rfl (k.ce n a c e1 e2) (upd_ne fun q => hr (by rw [← q]; exact List.mem_of_getElem? e1))⟩
/-- an object that stands is frozen -/
theorem Ok.adopt (k : Ok K F ρ H μ) (hF : F D = none) (hr : D ∉ ρ) (h : H D = some o) : Ok K (upd F D o) ρ H μ :=
  ⟨fun a u e => by
    by_cases q : a = D
    · subst q
      rw [upd_same] at e
      cases e
      exact h
    · rw [upd_ne q] at e
      exact k.ex a u e, k.len, k.nd, k.tr, fun n a c e1 e2 => cell_ex (Ex.new hF) (upd_ne fun q => hr (by rw [← q]; exact List.mem_of_getElem? e1)) (k.ce n a c e1 e2) rfl⟩
theorem Go.adopt (g : Go F1 ρ1 H1 F ρ H) (hF : F D = none) (h1 : H1 D = none) : Go F1 ρ1 H1 (upd F D o) ρ H :=
  ⟨g.ex.trans (Ex.new hF), g.pre, g.fr, g.nw, fun b z => by
    by_cases q : b = D
    · subst q
      exact .inr (.inl h1)
    · rw [upd_ne q] at z
      exact g.nf b z, g.tr⟩
/-- an object that stands becomes a cell -/
theorem Ok.enter (k : Ok K F ρ H μ) (hF : F D = none) (hr : D ∉ ρ) (h : H D = some o) (hc : CellOk K F (ρ ++ [D]) H D c) : Ok K F (ρ ++ [D]) H (μ ++ [c]) := by
  refine ⟨k.ex, by simp [k.len], ?_, fun a ha => ?_, fun n a c' e1 e2 => ?_⟩
  · exact List.nodup_append.mpr ⟨k.nd, by simp, fun a ha b hb e => by
      simp at hb
      subst hb
      subst e
      exact hr ha⟩
  · rcases List.mem_append.mp ha with z | z
    · exact k.tr a z
    · simp at z
      subst z
      rw [h]
      intro z
      cases z
  · have at_ : ∀ (v : V) (w : W), VW K F ρ v w → VW K F (ρ ++ [D]) v w := fun v w q => by
      cases w with
      | d x => exact q
      | p n =>
        obtain ⟨b, e, z⟩ := q
        exact ⟨b, by rw [List.getElem?_append_left (List.getElem?_eq_some_iff.mp e).1]; exact e, z⟩
      | r u => exact q
    by_cases q : n < ρ.length
    · rw [List.getElem?_append_left q] at e1
      rw [List.getElem?_append_left (by rw [← k.len]; exact q)] at e2
      have old := k.ce n a c' e1 e2
      cases c' with
      | gone => trivial
      | lst xs =>
        obtain ⟨h1, vs, h2, h3⟩ := old
        exact ⟨h1, vs, h2, pr_mono at_ h3⟩
      | ins C fs =>
        obtain ⟨h1, dx, fv, h2, h3⟩ := old
        exact ⟨h1, dx, fv, h2, pr_mono (fun _ _ q => ⟨q.1, at_ _ _ q.2⟩) h3⟩
    · have q' : ρ.length ≤ n := Nat.le_of_not_lt q
      rw [List.getElem?_append_right q'] at e1
      rw [List.getElem?_append_right (by rw [← k.len]; exact q')] at e2
      have z : n - ρ.length = 0 := by
        cases y : n - ρ.length with
        | zero => rfl
        | succ m => rw [y] at e1; simp at e1
      have z2 : n - μ.length = 0 := by rw [← k.len]; exact z
      rw [z] at e1
      rw [z2] at e2
      simp at e1 e2
      subst e1
      subst e2
      exact hc
theorem Go.enter (g : Go F1 ρ1 H1 F ρ H) (h1 : H1 D = none) : Go F1 ρ1 H1 F (ρ ++ [D]) H := by
  obtain ⟨t, e⟩ := g.pre
  refine ⟨g.ex, ⟨t ++ [D], by rw [e, List.append_assoc]⟩, g.fr, fun b hb => ?_, g.nf, g.tr⟩
  rcases List.mem_append.mp hb with z | z
  · exact g.nw b z
  · simp at z
    subst z
    exact .inr h1
end

/-! ### comprehensions -/
def wipeD (δ : Dl) : List Nat → Dl
  | [] => δ
  | v :: vs => (wipeD δ vs).set v none
theorem sl_wipe {K : PySem.W.Frag} {F : Hp} {ρ : List Addr} {σ : L2.St} {δ : Dl} (s : Sl K F ρ σ δ) : ∀ vs : List Nat, Sl K F ρ (wipe σ vs) (wipeD δ vs)
  | [] => s
  | v :: vs => sl_un (sl_wipe s vs)
/-- the target stores at the names vs alone -/
def Tg (g : TG) (vs : List Nat) : Prop := ∀ v σ H Q, g v σ H Q → g v σ H fun σ' H' => Q σ' H' ∧ wipe σ' vs = wipe σ vs
def Tgs (g : TGs) (vs : List Nat) : Prop := ∀ xs σ H Q, g xs σ H Q → g xs σ H fun σ' H' => Q σ' H' ∧ wipe σ' vs = wipe σ vs
theorem wipe_set {i : Nat} {y : Option V} : ∀ {us : List Nat} {σ : L2.St}, i ∈ us → wipe (σ.set i y) us = wipe σ us := by
  intro us
  induction us with
  | nil => intro σ h; simp at h
  | cons u us ih =>
    intro σ h
    show (wipe (σ.set i y) us).set u none = (wipe σ us).set u none
    by_cases q : i ∈ us
    · rw [ih q]
    · have e : i = u := by
        rcases List.mem_cons.mp h with z | z
        · exact z
        · exact absurd z q
      subst e
      have com : ∀ (us : List Nat), i ∉ us → wipe (σ.set i y) us = (wipe σ us).set i y := by
        intro us
        induction us with
        | nil => intro _; rfl
        | cons u us ih2 =>
          intro hq
          have hq1 : i ≠ u := fun e => hq (by rw [e]; exact List.mem_cons_self)
          have hq2 : i ∉ us := fun e => hq (List.mem_cons_of_mem _ e)
          show (wipe (σ.set i y) us).set u none = ((wipe σ us).set u none).set i y
          rw [ih2 hq2, List.set_comm _ _ hq1]
      rw [com us q, List.set_set]
theorem wipe_idem (us : List Nat) : ∀ (vs : List Nat) (σ : L2.St), (∀ v, v ∈ vs → v ∈ us) → wipe (wipe σ vs) us = wipe σ us := by
  intro vs
  induction vs with
  | nil => intro σ _; rfl
  | cons v vs ih =>
    intro σ h
    show wipe ((wipe σ vs).set v none) us = wipe σ us
    rw [wipe_set (h v List.mem_cons_self)]
    exact ih σ fun x hx => h x (List.mem_cons_of_mem _ hx)
theorem tg_name {i : Nat} {vs : List Nat} (h : i ∈ vs) : Tg (gName i) vs := fun v σ H Q q => ⟨q, wipe_set h⟩
theorem tgs_nil {vs : List Nat} : Tgs gNil vs := fun xs σ H Q q => ⟨q.1, q.2, rfl⟩
/-- targets are monotone -/
def Mg (g : TG) : Prop := ∀ v σ H Q Q', (∀ σ' H', Q σ' H' → Q' σ' H') → g v σ H Q → g v σ H Q'
def Mgs (g : TGs) : Prop := ∀ xs σ H Q Q', (∀ σ' H', Q σ' H' → Q' σ' H') → g xs σ H Q → g xs σ H Q'
theorem mg_name {i : Nat} : Mg (gName i) := fun v σ H Q Q' f q => f _ _ q
theorem mgs_nil : Mgs gNil := fun xs σ H Q Q' f q => ⟨q.1, f _ _ q.2⟩
theorem mgs_cons {g : TG} {gs : TGs} (a : Mg g) (b : Mgs gs) : Mgs (gCons g gs) := fun xs σ H Q Q' f q => by
  obtain ⟨v, r, e, z⟩ := q
  exact ⟨v, r, e, a _ _ _ _ _ (fun σ' H' z => b _ _ _ _ _ f z) z⟩
theorem mg_tup {K : PySem.W.Frag} {n : Nat} {gs : TGs} (b : Mgs gs) : Mg (gTup K n gs) := fun v σ H Q Q' f q => by
  obtain ⟨a, xs, e, s, l, z⟩ := q
  exact ⟨a, xs, e, s, l, b _ _ _ _ _ f z⟩
theorem tgs_cons {g : TG} {gs : TGs} {vs : List Nat} (m : Mg g) (mm : Mgs gs) (a : Tg g vs) (b : Tgs gs vs) : Tgs (gCons g gs) vs := fun xs σ H Q q => by
  obtain ⟨v, r, e, z⟩ := q
  refine ⟨v, r, e, m _ _ _ _ _ (fun σ' H' y => ?_) (a _ _ _ _ z)⟩
  exact mm _ _ _ _ _ (fun σ2 H2 w => ⟨w.1, w.2.trans y.2⟩) (b _ _ _ _ y.1)
theorem tg_tup {K : PySem.W.Frag} {n : Nat} {gs : TGs} {vs : List Nat} (b : Tgs gs vs) : Tg (gTup K n gs) vs := fun v σ H Q q => by
  obtain ⟨a, xs, e, s, l, z⟩ := q
  exact ⟨a, xs, e, s, l, b _ _ _ _ z⟩

section
variable {K : PySem.W.Frag} {X : WX} {δ δ1 δ2 : Dl} {μ μ1 μ2 μ' : Mu} {te : TE} {tt : TT} {ta : TA} {w : W} {ws : List W} {O : SO → Prop} {wi : TI} {g : TG} {tb : TS} {Kp : Mu → Prop} {vs : List Nat}
theorem lc_core (hi : EvI K wi δ μ ws Kp μ1) (mg : Mg g) (tg : Tg g vs) (hz : ws.length ≤ sizeLine) (P : Nat → Mu → List W → Prop) (h0 : P 0 μ1 []) (hk : ∀ i μ acc, P i μ acc → Kp μ)
    (hs : ∀ (i : Nat) (w : W) (μi : Mu) (acc : List W), ws[i]? = some w → P i μi acc → ∃ δ2 μ2 b μ3, EvG K g w (wipeD δ vs) μi δ2 μ2 ∧ EvT K tt δ2 μ2 b μ3 ∧
      (b = true → ∃ y μ4, Ev K te δ2 μ3 y μ4 ∧ P (i + 1) μ4 (acc ++ [y])) ∧ (b = false → P (i + 1) μ3 acc))
    {F : Hp} {ρ : List Addr} {H : Hp} {σ : L2.St} {Q : VK} (k : Ok K F ρ H μ) (s : Sl K F ρ σ δ)
    (q : ∀ D F' ρ' H' μ' acc accV, H D = none → Go F ρ H F' ρ' H' → Ok K F' ρ' H' μ' → F' D = none → D ∉ ρ' → H' D = some (.lst accV) → Paired (VW K F' ρ') accV acc → P ws.length μ' acc → Q (.ref D) H') : tLc wi g tt te vs σ H Q := by
  refine hi F ρ H σ _ k s fun J F1 ρ1 H1 g1 k1 r1 => fun D hD => ?_
  have hHD : H D = none := by
    cases e : H D with
    | none => rfl
    | some o => exact absurd hD (g1.tr D (by rw [e]; intro z; cases z))
  obtain ⟨hF1, hr1⟩ := k1.free hD
  refine ⟨fun i m Hi => m = ws.length - i ∧ i ≤ ws.length ∧ ∃ Fi ρi μi acc accV, Go F1 ρ1 H1 Fi ρi Hi ∧ Ok K Fi ρi Hi μi ∧ Fi D = none ∧ D ∉ ρi ∧ Hi D = some (.lst accV) ∧ Paired (VW K Fi ρi) accV acc ∧ acc.length ≤ i ∧ P i μi acc,
    ⟨_, rfl, Nat.zero_le _, F1, ρ1, μ1, [], [], Go.refl.other hD, k1.other hF1 hr1, hF1, hr1, upd_same, .nil, Nat.le_refl _, h0⟩, ?_⟩
  rintro i m Hi ⟨rfl, hi, Fi, ρi, μi, acc, accV, gi, ki, fD, nD, eD, pr, la, pi⟩
  by_cases hlt : i < ws.length
  · obtain ⟨hgo, hy⟩ := r1.go i ws[i] Fi ρi Hi μi (List.getElem?_eq_getElem hlt) gi ki (hk i μi acc pi)
    obtain ⟨δ2, μ2, b, μ3, hg, ht, hT, hF⟩ := hs i ws[i] μi acc (List.getElem?_eq_getElem hlt) pi
    have keepD : ∀ {Fa : Hp} {ρa : List Addr} {Ha : Hp} {Fb : Hp} {ρb : List Addr} {Hb : Hp} {l : List V}, Go Fa ρa Ha Fb ρb Hb → Fa D = none → D ∉ ρa → Ha D = some (.lst l) → Fb D = none ∧ D ∉ ρb ∧ Hb D = some (.lst l) := by
      intro Fa ρa Ha Fb ρb Hb l gg a1 a2 a3
      refine ⟨?_, fun z => ?_, gg.fr D _ a3 a2⟩
      · cases e : Fb D with
        | none => rfl
        | some o =>
          rcases gg.nf D (by rw [e]; intro z; cases z) with z | z | z
          · exact absurd a1 z
          · rw [a3] at z
            cases z
          · exact absurd z a2
      · rcases gg.nw D z with y | y
        · exact a2 y
        · rw [a3] at y
          cases y
    refine .inr ⟨hgo, fun H' => ∃ F' ρ' μ' acc accV, Go F1 ρ1 H1 F' ρ' H' ∧ Ok K F' ρ' H' μ' ∧ F' D = none ∧ D ∉ ρ' ∧ H' D = some (.lst accV) ∧ Paired (VW K F' ρ') accV acc ∧ acc.length ≤ i + 1 ∧ P (i + 1) μ' acc,
      fun H' z => ⟨ws.length - (i + 1), by omega, rfl, hlt, z⟩, fun x H3 y => ?_⟩
    obtain ⟨F3, ρ3, g3, k3, v3⟩ := hy x H3 y
    have s3 : Sl K F3 ρ3 (wipe σ vs) (wipeD δ vs) := sl_wipe (sl_go g3 (sl_go gi (sl_go g1 s))) vs
    have hmono := tg x (wipe σ vs) H3 (fun σ4 H4 => ∃ F4 ρ4, Go F3 ρ3 H3 F4 ρ4 H4 ∧ Ok K F4 ρ4 H4 μ2 ∧ Sl K F4 ρ4 σ4 δ2) (hg F3 ρ3 H3 (wipe σ vs) x _ k3 s3 v3 fun σ4 F4 ρ4 H4 g4 k4 s4 => ⟨F4, ρ4, g4, k4, s4⟩)
    have idem : wipe (wipe σ vs) vs = wipe σ vs := wipe_idem vs vs σ fun _ h => h
    refine mg _ _ _ _ _ (fun σ4 H4 z => ?_) hmono
    obtain ⟨⟨F4, ρ4, g4, k4, s4⟩, ew⟩ := z
    refine ⟨ew.trans idem, ?_⟩
    refine ht F4 ρ4 H4 σ4 _ k4 s4 fun F5 ρ5 H5 g5 k5 => ?_
    have g35 := (g3.trans g4).trans g5
    cases b with
    | true =>
      refine iteT ?_
      obtain ⟨y, μ4, he, hP⟩ := hT rfl
      refine he F5 ρ5 H5 σ4 _ k5 (sl_go g5 s4) fun v6 F6 ρ6 H6 g6 k6 e6 => ?_
      have gg := g35.trans g6
      obtain ⟨d1, d2, d3⟩ := keepD gg fD nD eD
      refine ⟨accV, d3, by rw [pr_len pr]; omega, F6, ρ6, μ4, acc ++ [y], accV ++ [v6], (gi.trans gg).other hD, k6.other d1 d2, d1, d2, upd_same, pr_app (vws_go gg pr) (.cons e6 .nil), by simp; exact la, hP⟩
    | false =>
      refine iteF ?_
      obtain ⟨d1, d2, d3⟩ := keepD g35 fD nD eD
      exact ⟨F5, ρ5, μ3, acc, accV, gi.trans g35, k5, d1, d2, d3, vws_go g35 pr, by omega, hF rfl⟩
  · have e : i = ws.length := by omega
    subst e
    exact .inl ⟨r1.stop Fi ρi Hi μi gi ki (hk _ μi acc pi), q D Fi ρi Hi μi acc accV hHD (g1.trans gi) ki fD nD eD pr pi⟩
end
end DL
set_option Elab.async false
set_option linter.all false
set_option maxRecDepth 100000
set_option maxHeartbeats 2000000
namespace DL
open PySem PySem.Spec PyProof.Rows L2
section
variable {K : PySem.W.Frag} {X : WX} {δ δ1 δ2 : Dl} {μ μ1 μ2 μ' : Mu} {te : TE} {tt : TT} {ta : TA} {w : W} {ws : List W} {O : SO → Prop} {wi : TI} {g : TG} {tb : TS} {Kp : Mu → Prop} {vs : List Nat}
/-- a comprehension by an invariant (turn, store, items so far): a list of data -/
theorem ev_lcD {xs : List PyData} (hi : EvI K wi δ μ ws Kp μ1) (mg : Mg g) (tg : Tg g vs) (hz : ws.length ≤ sizeLine) (P : Nat → Mu → List W → Prop) (h0 : P 0 μ1 []) (hk : ∀ i μ acc, P i μ acc → Kp μ)
    (hs : ∀ (i : Nat) (w : W) (μi : Mu) (acc : List W), ws[i]? = some w → P i μi acc → ∃ δ2 μ2 b μ3, EvG K g w (wipeD δ vs) μi δ2 μ2 ∧ EvT K tt δ2 μ2 b μ3 ∧
      (b = true → ∃ y μ4, Ev K te δ2 μ3 y μ4 ∧ P (i + 1) μ4 (acc ++ [y])) ∧ (b = false → P (i + 1) μ3 acc))
    (hd : ∀ μi acc, P ws.length μi acc → μi = μ' ∧ acc = xs.map .d) : Ev K (tLc wi g tt te vs) δ μ (.d (.list xs)) μ' := fun F ρ H σ Q k s q =>
  lc_core hi mg tg hz P h0 hk hs k s fun D F' ρ' H' μi acc accV hH g' k' fD nD eD pr p => by
    obtain ⟨e1, e2⟩ := hd μi acc p
    subst e1
    subst e2
    exact q _ _ _ _ (g'.adopt fD hH) (k'.adopt fD nD eD) (wv_l (SqL.of upd_same) (pr_mono (fun _ _ => dp_ex (Ex.new fD)) (pr_dun pr)))
theorem ev_lcP {xs : List W} (hi : EvI K wi δ μ ws Kp μ1) (mg : Mg g) (tg : Tg g vs) (hz : ws.length ≤ sizeLine) (P : Nat → Mu → List W → Prop) (h0 : P 0 μ1 []) (hk : ∀ i μ acc, P i μ acc → Kp μ)
    (hs : ∀ (i : Nat) (w : W) (μi : Mu) (acc : List W), ws[i]? = some w → P i μi acc → ∃ δ2 μ2 b μ3, EvG K g w (wipeD δ vs) μi δ2 μ2 ∧ EvT K tt δ2 μ2 b μ3 ∧
      (b = true → ∃ y μ4, Ev K te δ2 μ3 y μ4 ∧ P (i + 1) μ4 (acc ++ [y])) ∧ (b = false → P (i + 1) μ3 acc))
    (hd : ∀ μi acc, P ws.length μi acc → μi = μ' ∧ acc = xs) : Ev K (tLc wi g tt te vs) δ μ (.p μ'.length) (μ' ++ [.lst xs]) := fun F ρ H σ Q k s q =>
  lc_core hi mg tg hz P h0 hk hs k s fun D F' ρ' H' μi acc accV hH g' k' fD nD eD pr p => by
    obtain ⟨e1, e2⟩ := hd μi acc p
    subst e1
    subst e2
    have at_ : ∀ (v : V) (w : W), VW K F' ρ' v w → VW K F' (ρ' ++ [D]) v w := fun v w q => by
      cases w with
      | d x => exact q
      | p n =>
        obtain ⟨b, e, z⟩ := q
        exact ⟨b, by rw [List.getElem?_append_left (List.getElem?_eq_some_iff.mp e).1]; exact e, z⟩
      | r u => exact q
    exact q _ _ _ _ (g'.enter hH) (k'.enter fD nD eD ⟨fD, accV, eD, pr_mono at_ pr⟩) ⟨D, by rw [← k'.len]; simp, rfl⟩
/-- .. where no store changes: filter and map -/
theorem ev_lcF {f : W → PyData} {p : W → Bool} (hi : EvI K wi δ μ ws Kp μ1) (mg : Mg g) (tg : Tg g vs) (hz : ws.length ≤ sizeLine) (hk : Kp μ1)
    (hs : ∀ (i : Nat) (w : W), ws[i]? = some w → ∃ δ2, EvG K g w (wipeD δ vs) μ1 δ2 μ1 ∧ EvT K tt δ2 μ1 (p w) μ1 ∧ (p w = true → Ev K te δ2 μ1 (.d (f w)) μ1)) :
    Ev K (tLc wi g tt te vs) δ μ (.d (.list ((ws.filter p).map f))) μ1 :=
  ev_lcD hi mg tg hz (fun i μi acc => μi = μ1 ∧ acc = (((ws.take i).filter p).map f).map .d) ⟨rfl, rfl⟩ (fun i μi acc z => z.1 ▸ hk) (fun i w μi acc hw z => by
    obtain ⟨rfl, rfl⟩ := z
    obtain ⟨δ2, a, b, c⟩ := hs i w hw
    have et : ws.take (i + 1) = ws.take i ++ [w] := by
      rw [List.take_add_one, hw]
      rfl
    refine ⟨δ2, _, p w, _, a, b, fun hp => ⟨_, _, c hp, rfl, ?_⟩, fun hp => ⟨rfl, ?_⟩⟩
    · rw [et, List.filter_append, List.map_append, List.map_append]
      simp [hp]
    · rw [et, List.filter_append, List.map_append, List.map_append]
      simp [hp]) fun μi acc z => by
    obtain ⟨rfl, rfl⟩ := z
    rw [List.take_length]
    exact ⟨rfl, rfl⟩
/-- no tests: a true one -/
theorem et_nil : EvT K tYes δ μ true μ := fun F ρ H σ Q k s q => q F ρ H Go.refl k
end

/-! ### built-ins on data -/
section
variable {K : PySem.W.Frag} {X : WX} {δ δ1 δ2 : Dl} {μ μ1 μ2 μ3 μ' : Mu} {te : TE} {tt : TT} {ta : TA} {w x y z : W} {ws : List W} {O : SO → Prop}
def rLenU (K : PySem.W.Frag) : List V → Hp → VK → Prop := fun xs H Q => ∃ x n, xs = [x] ∧ LenV K x H n ∧ Q (.int n) H
theorem call_lenU {X : Cx} : CallR X (.builtin "len") (rLenU X.K) := call_len
theorem rc_len {xs : List W} (h : Seq μ w xs) : RC K (rLenU K) [w] μ (.i (xs.length : Nat)) μ := fun F ρ H vs Q k a q => by
  cases a with
  | cons a b =>
    have e := pr_nilR b
    subst e
    obtain ⟨p, us, rfl, hs, pr⟩ := seq_get k a h
    refine ⟨_, xs.length, rfl, ?_, q _ F ρ H Go.refl k (Dp.int _)⟩
    rcases hs with hs | hs
    · exact .inl ⟨us, hs, (pr_len pr).symm⟩
    · exact .inr ⟨us, hs, (pr_len pr).symm⟩
theorem rc_lenS {s : Str} (h : s.length ≤ sizeLine) : RC K (rLenU K) [.s s] μ (.i (s.length : Nat)) μ := fun F ρ H vs Q k a q => by
  cases a with
  | cons a b =>
    have e := pr_nilR b
    subst e
    have e := vw_s a
    subst e
    exact ⟨_, s.length, rfl, ⟨h, rfl⟩, q _ F ρ H Go.refl k (Dp.int _)⟩
def rAbs : List V → Hp → VK → Prop := fun xs H Q => ∃ i, xs = [.int i] ∧ Q (.int (if i < 0 then -i else i)) H
theorem call_absU {X : Cx} : CallR X (.builtin "abs") rAbs := call_abs
theorem rc_abs {i : Int} : RC K rAbs [.i i] μ (.i (if i < 0 then -i else i)) μ := fun F ρ H vs Q k a q => by
  cases a with
  | cons a b =>
    have e := pr_nilR b
    subst e
    have e := vw_int a
    subst e
    exact ⟨_, rfl, q _ F ρ H Go.refl k (Dp.int _)⟩
def rIntU : List V → Hp → VK → Prop := fun xs H Q => (∃ i, xs = [.int i] ∧ Q (.int i) H) ∨ ∃ k, xs = [.bl k] ∧ Q (.int (if k then 1 else 0)) H
theorem call_intU {X : Cx} : CallR X (.type "int") rIntU := call_int1
theorem rc_int {i : Int} : RC K rIntU [.i i] μ (.i i) μ := fun F ρ H vs Q k a q => by
  cases a with
  | cons a b =>
    have e := pr_nilR b
    subst e
    have e := vw_int a
    subst e
    exact .inl ⟨_, rfl, q _ F ρ H Go.refl k (Dp.int _)⟩
/-- isinstance(x, T), T built in -/
def tyD : PyData → String
  | .none => "NoneType"
  | .bool _ => "bool"
  | .int _ => "int"
  | .str _ => "str"
  | .list _ => "list"
  | .tuple _ => "tuple"
  | .dict _ => "dict"
theorem tyx_dp {H : Hp} {v : V} {a : PyData} (h : Dp K H v a) : TyX K H v (.type (tyD a)) := by
  cases h with
  | non => exact .base .non
  | bl b => exact .base (.bl b)
  | int i => exact .base (.int i)
  | str x => exact .base (.str x)
  | lst h t =>
    rcases h with (h | ⟨o, h⟩) | ⟨o, its, n, e1, e2, _⟩
    · exact .base (.lst h)
    · exact .base (.frz h)
    · exact .kList e1 e2
  | tup h t =>
    rcases h with (h | ⟨o, h⟩) | ⟨o, its, n, e1, e2, _⟩
    · exact .base (.tup h)
    · exact .fTuple h
    · exact .kTuple e1 e2
theorem rc_isi {a : PyData} {T : String} {b : Bool} (h : kitB (tyD a) T = some b) : RC K (rIsi K) [.d a, .r (.ty T)] μ (.b b) μ := fun F ρ H vs Q k p q => by
  cases p with
  | cons p1 p2 =>
    cases p2 with
    | cons p2 p3 =>
      have e := pr_nilR p3
      subst e
      have e2 : _ = V.ty T := p2
      subst e2
      exact ⟨_, _, _, _, b, rfl, .ty T, tyx_dp (dp_ex k.ex p1), kit_ty h, q _ F ρ H Go.refl k (Dp.bl _)⟩
/-- a cell's list is a list -/
theorem rc_isiP {n : Nat} {xs : List W} {T : String} {b : Bool} (e : μ[n]? = some (.lst xs)) (h : kitB "list" T = some b) : RC K (rIsi K) [.p n, .r (.ty T)] μ (.b b) μ := fun F ρ H vs Q k p q => by
  cases p with
  | cons p1 p2 =>
    cases p2 with
    | cons p2 p3 =>
      have e3 := pr_nilR p3
      subst e3
      have e2 : _ = V.ty T := p2
      subst e2
      obtain ⟨a, ea, rfl⟩ := p1
      obtain ⟨c, ec, _, us, hu, _⟩ := k.at e
      rw [ea] at ec
      cases ec
      exact ⟨_, _, _, _, b, rfl, .ty T, .base (.lst hu), kit_ty h, q _ F ρ H Go.refl k (Dp.bl _)⟩
/-! ### list(..), tuple(..) -/
def rTupU (K : PySem.W.Frag) : List V → Hp → VK → Prop := fun xs H Q => ∃ p ys, xs = [.ref p] ∧ ((SqL K H p ys ∧ ∀ l, H l = none → Q (.ref l) (upd H l (.tup ys))) ∨ (SqT K H p ys ∧ Q (.ref p) H))
theorem call_tupU {X : Cx} : CallR X (.type "tuple") (rTupU X.K) := call_tuple_of
theorem rc_tup {xs : List PyData} (h : Seq μ w (xs.map .d)) : RC K (rTupU K) [w] μ (.d (.tuple xs)) μ := fun F ρ H vs Q k a q => by
  cases a with
  | cons a b =>
    have e := pr_nilR b
    subst e
    generalize hys : xs.map W.d = ys at h
    cases h with
    | l i =>
      obtain ⟨p, us, rfl, hs, pr⟩ := its_get k a i
      subst hys
      exact ⟨p, us, rfl, .inl ⟨hs, fun l hl => ok_tup k (pr_dun pr) hl q⟩⟩
    | t zs =>
      have ez : xs = zs := by
        have inj : ∀ (a b : List PyData), a.map W.d = b.map W.d → a = b := by
          intro a
          induction a with
          | nil => intro b h; cases b with | nil => rfl | cons _ _ => cases h
          | cons x xs ih =>
            intro b h
            cases b with
            | nil => cases h
            | cons y ys =>
              simp only [List.map_cons, List.cons.injEq] at h
              have := ih ys h.2
              injection h.1 with h1
              rw [h1, this]
        exact inj _ _ hys
      subst ez
      obtain ⟨p, us, rfl, hs, pr⟩ := vw_t a
      exact ⟨p, us, rfl, .inr ⟨ex_t k.ex hs, q _ F ρ H Go.refl k a⟩⟩
def rLstU (K : PySem.W.Frag) : List V → Hp → VK → Prop := fun xs H Q => ∃ p ys, xs = [.ref p] ∧ (SqL K H p ys ∨ SqT K H p ys) ∧ ∀ l, H l = none → Q (.ref l) (upd H l (.lst ys))
theorem call_lstU {X : Cx} : CallR X (.type "list") (rLstU X.K) := call_list_of
theorem rc_lstP {xs : List W} (h : Seq μ w xs) : RC K (rLstU K) [w] μ (.p μ.length) (μ ++ [.lst xs]) := fun F ρ H vs Q k a q => by
  cases a with
  | cons a b =>
    have e := pr_nilR b
    subst e
    obtain ⟨p, us, rfl, hs, pr⟩ := seq_get k a h
    exact ⟨p, us, rfl, hs, fun l hl => ok_cel k pr hl q⟩
theorem rc_lstD {xs : List PyData} (h : Seq μ w (xs.map .d)) : RC K (rLstU K) [w] μ (.d (.list xs)) μ := fun F ρ H vs Q k a q => by
  cases a with
  | cons a b =>
    have e := pr_nilR b
    subst e
    obtain ⟨p, us, rfl, hs, pr⟩ := seq_get k a h
    exact ⟨p, us, rfl, hs, fun l hl => ok_lst k (pr_dun pr) hl q⟩
/-! ### methods of built-in types -/
/-- o.m(..): o of the type T -/
theorem ev_bm {T : String} {r : V → List V → Hp → VK → Prop} (hv : ∀ (F : Hp) (ρ : List Addr) (H : Hp) (v : V), Ok K F ρ H μ1 → VW K F ρ v x → tyV K T v H) (h : Ev K te δ μ x μ1) (ha : EvA K ta δ μ1 ws μ2) (hr : RM K r x ws μ2 z μ3) : Ev K (tBM K T r te ta) δ μ z μ3 := fun F ρ H σ Q k s q =>
  h F ρ H σ _ k s fun v F1 ρ1 H1 g1 k1 e1 => ⟨hv F1 ρ1 H1 v k1 e1, ha F1 ρ1 H1 σ _ k1 (sl_go g1 s) fun vs F2 ρ2 H2 g2 k2 e2 => hr F2 ρ2 H2 v vs Q k2 (vw_go g2 e1) e2 fun v' F3 ρ3 H3 g3 k3 e3 => q v' F3 ρ3 H3 ((g1.trans g2).trans g3) k3 e3⟩
theorem ev_bm0 {T : String} {r : V → List V → Hp → VK → Prop} (hv : ∀ (F : Hp) (ρ : List Addr) (H : Hp) (v : V), Ok K F ρ H μ1 → VW K F ρ v x → tyV K T v H) (h : Ev K te δ μ x μ1) (hr : RM K r x [] μ1 z μ3) : Ev K (tBM0 K T r te) δ μ z μ3 := fun F ρ H σ Q k s q =>
  h F ρ H σ _ k s fun v F1 ρ1 H1 g1 k1 e1 => ⟨hv F1 ρ1 H1 v k1 e1, hr F1 ρ1 H1 v [] Q k1 e1 .nil fun v' F3 ρ3 H3 g3 k3 e3 => q v' F3 ρ3 H3 (g1.trans g3) k3 e3⟩
theorem tyv_cell {n : Nat} {xs : List W} (e : μ[n]? = some (.lst xs)) : ∀ (F : Hp) (ρ : List Addr) (H : Hp) (v : V), Ok K F ρ H μ → VW K F ρ v (.p n) → tyV K "list" v H := fun F ρ H v k a => by
  obtain ⟨a, ea, rfl⟩ := a
  obtain ⟨c, ec, _, us, hu, _⟩ := k.at e
  rw [ea] at ec
  cases ec
  exact .inl ⟨rfl, _, SqL.of hu⟩
theorem rm_append {n : Nat} {xs : List W} (e : μ[n]? = some (.lst xs)) (hz : xs.length < sizeLine) : RM K rAppend (.p n) [w] μ (.d .none) (μ.set n (.lst (xs ++ [w]))) := fun F ρ H v vs Q k a b q => by
  obtain ⟨a, ea, rfl⟩ := a
  obtain ⟨c, ec, hF, us, hu, pr⟩ := k.at e
  rw [ea] at ec
  cases ec
  cases b with
  | cons b1 b2 =>
    have e3 := pr_nilR b2
    subst e3
    obtain ⟨k3, g3⟩ := k.put (o := .lst (us ++ [_])) (c := .lst (xs ++ [w])) ea hF ⟨hF, _, upd_same, pr_app pr (.cons b1 .nil)⟩
    exact ⟨a, us, _, rfl, rfl, hu, by rw [pr_len pr]; exact hz, q _ _ _ _ g3 k3 Dp.non⟩
theorem rm_pop {n : Nat} {xs : List W} (e : μ[n]? = some (.lst xs)) (h : xs[xs.length - 1]? = some w) : RM K rPop (.p n) [] μ w (μ.set n (.lst xs.dropLast)) := fun F ρ H v vs Q k a b q => by
  obtain ⟨a, ea, rfl⟩ := a
  obtain ⟨c, ec, hF, us, hu, pr⟩ := k.at e
  rw [ea] at ec
  cases ec
  have e3 := pr_nilR b
  subst e3
  obtain ⟨y, hy, ry⟩ := pr_get pr h
  have pd : Paired (VW K F ρ) us.dropLast xs.dropLast := by
    rw [List.dropLast_eq_take, List.dropLast_eq_take, pr_len pr]
    exact pr_take _ pr
  obtain ⟨k3, g3⟩ := k.put (o := .lst us.dropLast) (c := .lst xs.dropLast) ea hF ⟨hF, _, upd_same, pd⟩
  exact ⟨a, us, y, rfl, rfl, hu, by rw [pr_len pr]; exact hy, q _ _ _ _ g3 k3 (vw_go g3 ry)⟩
/-! ### slices -/
theorem eo_some {i : Int} (h : Ev K te δ μ (.i i) μ1) : EvO K (tPart te) δ μ (some i) μ1 := fun F ρ H σ Q k s q =>
  h F ρ H σ _ k s fun v F1 ρ1 H1 g1 k1 e1 => ⟨i, vw_int e1, q F1 ρ1 H1 g1 k1⟩
theorem eo_no : EvO K tNoPart δ μ none μ := fun F ρ H σ Q k s q => q F ρ H Go.refl k
def cutD {α : Type} (xs : List α) (lo hi : Option Int) : List α := (xs.drop (HT.sIx xs.length 0 lo)).take (HT.sIx xs.length xs.length hi - HT.sIx xs.length 0 lo)
theorem pr_cut {α β : Type} {R : α → β → Prop} {xs : List α} {ys : List β} (p : Paired R xs ys) (lo hi : Option Int) : Paired R (cutD xs lo hi) (cutD ys lo hi) := by
  unfold cutD
  rw [pr_len p]
  exact pr_take _ (pr_drop _ p)
theorem cutV_eq (xs : List V) (lo hi : Option Int) : cutV xs lo hi = cutD xs lo hi := rfl
theorem cut_whole {α : Type} {xs : List α} {lo hi : Option Int} (h : HT.sIx xs.length 0 lo = 0 ∧ HT.sIx xs.length xs.length hi = xs.length) : cutD xs lo hi = xs := by
  unfold cutD
  rw [h.1, h.2]
  simp
def RS (K : PySem.W.Frag) (r : V → Option Int → Option Int → Hp → VK → Prop) (x : W) (lo hi : Option Int) (μ : Mu) (z : W) (μ' : Mu) : Prop :=
  ∀ (F : Hp) (ρ : List Addr) (H : Hp) (v : V) (Q : VK), Ok K F ρ H μ → VW K F ρ v x →
    (∀ v' F' ρ' H', Go F ρ H F' ρ' H' → Ok K F' ρ' H' μ' → VW K F' ρ' v' z → Q v' H') → r v lo hi H Q
theorem ev_sl {r : V → Option Int → Option Int → Hp → VK → Prop} {tl th : TO} {lo hi : Option Int} {μ4 : Mu} (h : Ev K te δ μ x μ1) (h1 : EvO K tl δ μ1 lo μ2) (h2 : EvO K th δ μ2 hi μ3) (hr : RS K r x lo hi μ3 z μ4) : Ev K (tSl r te tl th) δ μ z μ4 := fun F ρ H σ Q k s q =>
  h F ρ H σ _ k s fun v F1 ρ1 H1 g1 k1 e1 => h1 F1 ρ1 H1 σ _ k1 (sl_go g1 s) fun F2 ρ2 H2 g2 k2 => h2 F2 ρ2 H2 σ _ k2 (sl_go g2 (sl_go g1 s)) fun F3 ρ3 H3 g3 k3 =>
    hr F3 ρ3 H3 v Q k3 (vw_go g3 (vw_go g2 e1)) fun v' F4 ρ4 H4 g4 k4 e4 => q v' F4 ρ4 H4 (((g1.trans g2).trans g3).trans g4) k4 e4
/-- a slice of a list, a tuple, a text -/
def rSlU (K : PySem.W.Frag) : V → Option Int → Option Int → Hp → VK → Prop := fun x lo hi H Q => rSlL K x lo hi H Q ∨ rSlA K x lo hi H Q
theorem sl_U {X : Cx} : SlR X (rSlU X.K) := fun pins s σ H x v vl vu lo hi sl Q I rx hs pl pu h => by
  rcases h with h | h
  · exact sl_list pins s σ H x v vl vu lo hi sl Q I rx hs pl pu h
  · exact sl_tupA pins s σ H x v vl vu lo hi sl Q I rx hs pl pu h
theorem rs_tup {xs : List PyData} {lo hi : Option Int} : RS K (rSlU K) (.d (.tuple xs)) lo hi μ (.d (.tuple (cutD xs lo hi))) μ := fun F ρ H v Q k a q => by
  obtain ⟨p, us, rfl, hs, pr⟩ := vw_t a
  refine .inr ⟨p, us, rfl, ex_t k.ex hs, fun hw => ?_, fun hw l hl => ok_tup k (pr_cut pr lo hi) hl q⟩
  rw [pr_len pr] at hw
  rw [cut_whole hw] at q
  exact q _ F ρ H Go.refl k a
theorem rs_lstD {xs : List PyData} {lo hi : Option Int} (h : Its μ x (xs.map .d)) : RS K (rSlU K) x lo hi μ (.d (.list (cutD xs lo hi))) μ := fun F ρ H v Q k a q => by
  obtain ⟨p, us, rfl, hs, pr⟩ := its_get k a h
  exact .inl ⟨p, us, rfl, hs, fun l hl => ok_lst k (pr_cut (pr_dun pr) lo hi) hl q⟩
theorem rs_lstP {xs : List W} {lo hi : Option Int} (h : Its μ x xs) : RS K (rSlU K) x lo hi μ (.p μ.length) (μ ++ [.lst (cutD xs lo hi)]) := fun F ρ H v Q k a q => by
  obtain ⟨p, us, rfl, hs, pr⟩ := its_get k a h
  exact .inl ⟨p, us, rfl, hs, fun l hl => ok_cel k (pr_cut pr lo hi) hl q⟩
/-! ### + and * -/
theorem rv_catT {xs ys : List PyData} (hz : xs.length + ys.length ≤ sizeLine) : RV K (rCatA K) (.d (.tuple xs)) (.d (.tuple ys)) μ (.d (.tuple (xs ++ ys))) μ := fun F ρ H v u Q k a b q => by
  obtain ⟨p, us, rfl, hs, pr⟩ := vw_t a
  obtain ⟨p2, us2, rfl, hs2, pr2⟩ := vw_t b
  refine ⟨p, p2, us, us2, rfl, rfl, ex_t k.ex hs, ex_t k.ex hs2, by rw [pr_len pr, pr_len pr2]; exact hz, fun e => ?_, fun _ e => ?_, fun _ _ l hl => ok_tup k (pr_app pr pr2) hl q⟩
  · subst e
    have z := pr_nilL pr
    subst z
    exact q _ F ρ H Go.refl k b
  · subst e
    have z := pr_nilL pr2
    subst z
    rw [List.append_nil] at q
    exact q _ F ρ H Go.refl k a
theorem rv_repT {xs : List PyData} {n : Int} (h0 : xs ≠ []) (h1 : 2 ≤ n) (h2 : n ≤ 1000) (h3 : xs.length ≤ 1000) : RV K (rRepT K) (.d (.tuple xs)) (.i n) μ (.d (.tuple (List.replicate n.toNat xs).flatten)) μ := fun F ρ H v u Q k a b q => by
  obtain ⟨p, us, rfl, hs, pr⟩ := vw_t a
  refine ⟨p, n, us, rfl, vw_int b, ex_t k.ex hs, fun e => h0 (by subst e; exact pr_nilL pr), h1, h2, by rw [pr_len pr]; exact h3, fun l hl => ok_tup k (pr_flat (pr_rep pr _)) hl q⟩
theorem rv_repP {m : Nat} {xs : List W} {n : Int} (e : μ[m]? = some (.lst xs)) (h1 : -(2 ^ 63) ≤ n) (h2 : n < 2 ^ 63) (h3 : xs.length * n.toNat ≤ sizeLine) : RV K rRep (.p m) (.i n) μ (.p μ.length) (μ ++ [.lst (List.replicate n.toNat xs).flatten]) := fun F ρ H v u Q k a b q => by
  obtain ⟨a, ea, rfl⟩ := a
  obtain ⟨c, ec, hF, us, hu, pr⟩ := k.at e
  rw [ea] at ec
  cases ec
  exact ⟨a, n, us, rfl, vw_int b, hu, h1, h2, by rw [pr_len pr]; exact h3, fun l hl => ok_cel k (pr_flat (pr_rep pr _)) hl q⟩
/-! ### is of bools, None -/
theorem rv_isB {a b : Bool} : RV K rIsB (.b a) (.b b) μ (.b (decide (a = b))) μ := fun F ρ H v u Q k e1 e2 q => ⟨a, b, vw_b e1, vw_b e2, q _ F ρ H Go.refl k (Dp.bl _)⟩
theorem rv_notB {a b : Bool} : RV K rNotB (.b a) (.b b) μ (.b (!decide (a = b))) μ := fun F ρ H v u Q k e1 e2 q => ⟨a, b, vw_b e1, vw_b e2, q _ F ρ H Go.refl k (Dp.bl _)⟩
/-! ### fields -/
def putW (f : Str) (w : W) : List (Str × W) → List (Str × W)
  | [] => [(f, w)]
  | (g, x) :: r => if g = f then (g, w) :: r else (g, x) :: putW f w r
theorem pr_lookup {F : Hp} {ρ : List Addr} {f : Str} {w : W} : ∀ {fv : List (Str × V)} {fs : List (Str × W)}, Paired (FW K F ρ) fv fs → fs.lookup f = some w → ∃ v, fv.lookup f = some v ∧ VW K F ρ v w
  | _, _, .nil, h => nomatch h
  | (a, x) :: fv, (b, y) :: fs, .cons r t, h => by
    obtain ⟨e, q⟩ := r
    have e' : a = b := e
    subst e'
    unfold List.lookup at h ⊢
    cases c : f == a with
    | true =>
      rw [c] at h
      cases h
      exact ⟨x, rfl, q⟩
    | false =>
      rw [c] at h
      exact pr_lookup t h
theorem pr_lookup0 {F : Hp} {ρ : List Addr} {f : Str} : ∀ {fv : List (Str × V)} {fs : List (Str × W)}, Paired (FW K F ρ) fv fs → fs.lookup f = none → fv.lookup f = none
  | _, _, .nil, h => rfl
  | (a, x) :: fv, (b, y) :: fs, .cons r t, h => by
    obtain ⟨e, q⟩ := r
    have e' : a = b := e
    subst e'
    unfold List.lookup at h ⊢
    cases c : f == a with
    | true =>
      rw [c] at h
      cases h
    | false =>
      rw [c] at h
      exact pr_lookup0 t h
theorem pr_put {F : Hp} {ρ : List Addr} {f : Str} {v : V} {w : W} (r : VW K F ρ v w) : ∀ {fv : List (Str × V)} {fs : List (Str × W)}, Paired (FW K F ρ) fv fs → Paired (FW K F ρ) (putF f v fv) (putW f w fs)
  | _, _, .nil => .cons ⟨rfl, r⟩ .nil
  | (a, x) :: fv, (b, y) :: fs, .cons q t => by
    obtain ⟨e, z⟩ := q
    have e' : a = b := e
    subst e'
    unfold putF putW
    by_cases c : a = f
    · rw [if_pos c, if_pos c]
      exact .cons ⟨rfl, r⟩ t
    · rw [if_neg c, if_neg c]
      exact .cons ⟨rfl, z⟩ (pr_put r t)
theorem ev_fld {n : Nat} {C : Addr} {fs : List (Str × W)} {f : Str} (h : Ev K te δ μ (.p n) μ1) (e : μ1[n]? = some (.ins C fs)) (c : Cls K C) (na : NoAttr K C f) (l : fs.lookup f = some w) : Ev K (tFld K te f) δ μ w μ1 := fun F ρ H σ Q k s q =>
  h F ρ H σ _ k s fun v F1 ρ1 H1 g1 k1 e1 => by
    obtain ⟨a, ea, rfl⟩ := e1
    obtain ⟨c', ec, hF, dx, fv, hu, pr⟩ := k1.at e
    rw [ea] at ec
    cases ec
    obtain ⟨v, lv, rv⟩ := pr_lookup pr l
    exact ⟨a, C, dx, fv, v, rfl, hu, c, na, lv, q v F1 ρ1 H1 g1 k1 rv⟩
theorem st_fld {tv : TE} {n : Nat} {C : Addr} {fs : List (Str × W)} {f : Str} (hv : Ev K tv δ μ w μ1) (h : Ev K te δ μ1 (.p n) μ2) (e : μ2[n]? = some (.ins C fs)) (c : Cls K C) (na : NoAttr K C f) (hz : fs.length < 1000)
    (hO : O (.nx δ (μ2.set n (.ins C (putW f w fs))))) : St K X (sFld K te tv f) δ μ O := fun F ρ H σ D k s q =>
  hv F ρ H σ _ k s fun v F1 ρ1 H1 g1 k1 e1 => h F1 ρ1 H1 σ _ k1 (sl_go g1 s) fun v2 F2 ρ2 H2 g2 k2 e2 => by
    obtain ⟨a, ea, rfl⟩ := e2
    obtain ⟨c', ec, hF, dx, fv, hu, pr⟩ := k2.at e
    rw [ea] at ec
    cases ec
    obtain ⟨k3, g3⟩ := k2.put (o := .ins C dx (putF f v fv)) (c := .ins C (putW f w fs)) ea hF ⟨hF, dx, _, upd_same, pr_put (vw_go g2 e1) pr⟩
    exact ⟨a, C, dx, fv, rfl, hu, c, na, by rw [pr_len pr]; exact hz, q _ hO σ _ _ _ ((g1.trans g2).trans g3) k3 (sl_go g3 (sl_go g2 (sl_go g1 s)))⟩
end
end DL
set_option Elab.async false
set_option linter.all false
set_option maxRecDepth 100000
set_option maxHeartbeats 2000000
namespace DL
open PySem PySem.Spec PyProof.Rows L2
inductive FO where
  | ret (w : W) (μ : Mu)
  | exc (C : Value) (μ : Mu)
def PostF (K : PySem.W.Frag) (F : Hp) (ρ : List Addr) (H : Hp) (Q : VK) (E : XK) (o : FO) : Prop := match o with
  | .ret w μ => ∀ v F' ρ' H', Go F ρ H F' ρ' H' → Ok K F' ρ' H' μ → VW K F' ρ' v w → Q v H'
  | .exc C μ => ∀ F' ρ' H', Go F ρ H F' ρ' H' → Ok K F' ρ' H' μ → E C none H'
/-- what a def does: from its arguments' worths and the store, an end of which O is so -/
abbrev Spec := List W → Mu → (FO → Prop) → Prop
def spOf (K : PySem.W.Frag) (n : Nat) (Φ : Spec) : Sp := fun vs H Q E => vs.length = n ∧ ∃ F ρ μ ws O, Ok K F ρ H μ ∧ Paired (VW K F ρ) vs ws ∧ Φ ws μ O ∧ ∀ o, O o → PostF K F ρ H Q E o
def ClW (n : Nat) : W → Prop
  | .p k => k < n
  | _ => True
def ClC (n : Nat) : Cell → Prop
  | .gone => True
  | .lst xs => ∀ x, x ∈ xs → ClW n x
  | .ins _ fs => ∀ p, p ∈ fs → ClW n p.2
def ClM (μ : Mu) : Prop := ∀ c, c ∈ μ → ClC μ.length c
section
variable {K : PySem.W.Frag} {F F' H H' : Hp} {ρ ρ' : List Addr} {μ μ0 junk : Mu} {v : V} {w : W}
theorem vw_cl (h : VW K F ρ v w) : ClW ρ.length w := by
  cases w with
  | d x => trivial
  | r u => trivial
  | p n =>
    obtain ⟨a, e, _⟩ := h
    exact (List.getElem?_eq_some_iff.mp e).1
theorem Ok.cl (k : Ok K F ρ H μ) : ClM μ := fun c hc => by
  obtain ⟨n, hn⟩ := List.getElem?_of_mem hc
  obtain ⟨a, ea, co⟩ := k.at hn
  rw [← k.len]
  cases c with
  | gone => trivial
  | lst xs =>
    obtain ⟨_, vs, _, pr⟩ := co
    intro x hx
    obtain ⟨i, hi⟩ := List.getElem?_of_mem hx
    obtain ⟨v, _, r⟩ := pr_get pr hi
    exact vw_cl r
  | ins C fs =>
    obtain ⟨_, dx, vs, _, pr⟩ := co
    intro x hx
    obtain ⟨i, hi⟩ := List.getElem?_of_mem hx
    obtain ⟨v, _, r⟩ := pr_get pr hi
    exact vw_cl r.2
theorem vw_cut {n : Nat} (c : ClW n w) (h : VW K F ρ v w) : VW K F (ρ.take n) v w := by
  cases w with
  | d x => exact h
  | r u => exact h
  | p k =>
    obtain ⟨a, e, z⟩ := h
    exact ⟨a, by rw [List.getElem?_take_of_lt c]; exact e, z⟩
theorem Ok.cut (k : Ok K F ρ H (μ0 ++ junk)) (c : ClM μ0) : Ok K F (ρ.take μ0.length) H μ0 := by
  have hl : μ0.length ≤ ρ.length := by
    rw [k.len, List.length_append]
    omega
  refine ⟨k.ex, by rw [List.length_take]; omega, List.Sublist.nodup (List.take_sublist _ _) k.nd, fun a ha => k.tr a (List.mem_of_mem_take ha), fun n a cc e1 e2 => ?_⟩
  have hn : n < μ0.length := (List.getElem?_eq_some_iff.mp e2).1
  rw [List.getElem?_take_of_lt hn] at e1
  have old := k.ce n a cc e1 (by rw [List.getElem?_append_left hn]; exact e2)
  have cc' := c cc (List.mem_of_getElem? e2)
  have cutp : ∀ {xs : List W} {vs : List V}, (∀ x, x ∈ xs → ClW μ0.length x) → Paired (VW K F ρ) vs xs → Paired (VW K F (ρ.take μ0.length)) vs xs := by
    intro xs vs hc pr
    induction pr with
    | nil => exact .nil
    | cons r t ih => exact .cons (vw_cut (hc _ List.mem_cons_self) r) (ih fun x hx => hc x (List.mem_cons_of_mem _ hx))
  have cutf : ∀ {xs : List (Str × W)} {vs : List (Str × V)}, (∀ x, x ∈ xs → ClW μ0.length x.2) → Paired (FW K F ρ) vs xs → Paired (FW K F (ρ.take μ0.length)) vs xs := by
    intro xs vs hc pr
    induction pr with
    | nil => exact .nil
    | cons r t ih => exact .cons ⟨r.1, vw_cut (hc _ List.mem_cons_self) r.2⟩ (ih fun x hx => hc x (List.mem_cons_of_mem _ hx))
  cases cc with
  | gone => trivial
  | lst xs =>
    obtain ⟨h1, vs, h2, h3⟩ := old
    exact ⟨h1, vs, h2, cutp cc' h3⟩
  | ins C fs =>
    obtain ⟨h1, dx, fv, h2, h3⟩ := old
    exact ⟨h1, dx, fv, h2, cutf cc' h3⟩
theorem Go.cut {n : Nat} (g : Go F ρ H F' ρ' H') (h : ρ.length ≤ n) : Go F ρ H F' (ρ'.take n) H' := by
  obtain ⟨t, e⟩ := g.pre
  refine ⟨g.ex, ⟨t.take (n - ρ.length), ?_⟩, g.fr, fun b hb => g.nw b (List.mem_of_mem_take hb), g.nf, g.tr⟩
  rw [e, List.take_append, List.take_of_length_le h]
end

/-! ### calls -/
section
variable {K : PySem.W.Frag} {X : WX} {δ δ1 : Dl} {μ μ1 μ2 : Mu} {te : TE} {ta : TA} {w : W} {ws : List W} {O : SO → Prop} {Φ : Spec} {n : Nat} {C : Value} {E : L2.St → XK}
theorem ev_call (ha : EvA K ta δ μ ws μ1) (hn : ws.length = n) (h : Φ ws μ1 (· = .ret w μ2)) : Ev K (tCallS (spOf K n Φ) E ta) δ μ w μ2 := fun F ρ H σ Q k s q =>
  ha F ρ H σ _ k s fun vs F1 ρ1 H1 g1 k1 e1 => ⟨by rw [pr_len e1]; exact hn, F1, ρ1, μ1, ws, _, k1, e1, h, fun o ho => by
    subst ho
    exact fun v F2 ρ2 H2 g2 k2 e2 => q v F2 ρ2 H2 (g1.trans g2) k2 e2⟩
theorem evx_call (ha : EvA K ta δ μ ws μ1) (hn : ws.length = n) (h : Φ ws μ1 (· = .exc C μ2)) : EvX K X (tCallS (spOf K n Φ) (WE X) ta) δ μ C μ2 := fun F ρ H σ Q k s q =>
  ha F ρ H σ _ k s fun vs F1 ρ1 H1 g1 k1 e1 => ⟨by rw [pr_len e1]; exact hn, F1, ρ1, μ1, ws, _, k1, e1, h, fun o ho => by
    subst ho
    exact fun F2 ρ2 H2 g2 k2 => q F2 ρ2 H2 (g1.trans g2) k2⟩
/-- o.m(..) -/
def tMethU (C : Addr) (m : Str) (sp : Sp) (E : L2.St → XK) (ta : TE) (t : TA) : TE := fun σ H Q => ta σ H fun x H1 => ∃ a dx fs, x = .ref a ∧ H1 a = some (.ins C dx fs) ∧ fs.lookup m = none ∧
  t σ H1 fun vs H2 => sp (x :: vs) H2 Q (E σ)
theorem ev_meth {C : Addr} {m : Str} {c : Nat} {fs : List (Str × W)} (ho : Ev K te δ μ (.p c) μ1) (e : μ1[c]? = some (.ins C fs)) (hm : fs.lookup m = none) {μ3 : Mu} (ha : EvA K ta δ μ1 ws μ2) (hn : ws.length + 1 = n) (h : Φ (.p c :: ws) μ2 (· = .ret w μ3)) :
    Ev K (tMethU C m (spOf K n Φ) E te ta) δ μ w μ3 := fun F ρ H σ Q k s q =>
  ho F ρ H σ _ k s fun v F1 ρ1 H1 g1 k1 e1 => by
    obtain ⟨a, ea, rfl⟩ := id e1
    obtain ⟨c', ec, hF, dx, fv, hu, pr⟩ := k1.at e
    rw [ea] at ec
    cases ec
    refine ⟨a, dx, fv, rfl, hu, pr_lookup0 pr hm, ?_⟩
    refine ha F1 ρ1 H1 σ _ k1 (sl_go g1 s) fun vs F2 ρ2 H2 g2 k2 e2 => ?_
    refine ⟨by rw [List.length_cons, pr_len e2]; exact hn, F2, ρ2, μ2, .p c :: ws, _, k2, .cons (vw_go g2 e1) e2, h, fun o ho => ?_⟩
    subst ho
    exact fun v F3 ρ3 H3 g3 k3 e3 => q v F3 ρ3 H3 ((g1.trans g2).trans g3) k3 e3
theorem evx_meth {D : Addr} {m : Str} {c : Nat} {fs : List (Str × W)} (ho : Ev K te δ μ (.p c) μ1) (e : μ1[c]? = some (.ins D fs)) (hm : fs.lookup m = none) {μ3 : Mu} (ha : EvA K ta δ μ1 ws μ2) (hn : ws.length + 1 = n) (h : Φ (.p c :: ws) μ2 (· = .exc C μ3)) :
    EvX K X (tMethU D m (spOf K n Φ) (WE X) te ta) δ μ C μ3 := fun F ρ H σ Q k s q =>
  ho F ρ H σ _ k s fun v F1 ρ1 H1 g1 k1 e1 => by
    obtain ⟨a, ea, rfl⟩ := id e1
    obtain ⟨c', ec, hF, dx, fv, hu, pr⟩ := k1.at e
    rw [ea] at ec
    cases ec
    refine ⟨a, dx, fv, rfl, hu, pr_lookup0 pr hm, ?_⟩
    refine ha F1 ρ1 H1 σ _ k1 (sl_go g1 s) fun vs F2 ρ2 H2 g2 k2 e2 => ?_
    refine ⟨by rw [List.length_cons, pr_len e2]; exact hn, F2, ρ2, μ2, .p c :: ws, _, k2, .cons (vw_go g2 e1) e2, h, fun o ho => ?_⟩
    subst ho
    exact fun F3 ρ3 H3 g3 k3 => q F3 ρ3 H3 ((g1.trans g2).trans g3) k3
/-- C(..) -/
def tMakeU (C : Addr) (sp : Sp) (E : L2.St → XK) (t : TA) : TE := fun σ H Q => t σ H fun vs H1 => ∀ x dx, H1 x = none → H1 dx = none → dx ≠ x →
  sp (.ref x :: vs) (upd (upd H1 dx (.own x)) x (.ins C dx [])) (fun v H2 => v = .non ∧ Q (.ref x) H2) (E σ)
theorem made {F H : Hp} {ρ : List Addr} (k : Ok K F ρ H μ) {C x dx : Addr} (hx : H x = none) (hd : H dx = none) (ne : dx ≠ x) :
    ∃ F' ρ', Go F ρ H F' ρ' (upd (upd H dx (.own x)) x (.ins C dx [])) ∧ Ok K F' ρ' (upd (upd H dx (.own x)) x (.ins C dx [])) (μ ++ [.ins C []]) ∧ VW K F' ρ' (.ref x) (.p μ.length) := by
  obtain ⟨k1, g1⟩ := k.freeze (o := .own x) hd
  have hx1 : upd H dx (.own x) x = none := by rw [upd_ne (Ne.symm ne)]; exact hx
  obtain ⟨k2, g2, e2⟩ := k1.push (o := .ins C dx []) (c := .ins C []) hx1 ⟨k1.ex.un hx1, dx, [], upd_same, .nil⟩
  exact ⟨_, _, g1.trans g2, k2, x, e2, rfl⟩
theorem ev_make {C : Addr} {μ3 : Mu} (ha : EvA K ta δ μ ws μ1) (hn : ws.length + 1 = n) (h : Φ (.p μ1.length :: ws) (μ1 ++ [.ins C []]) (· = .ret (.d .none) μ3)) : Ev K (tMakeU C (spOf K n Φ) E ta) δ μ (.p μ1.length) μ3 := fun F ρ H σ Q k s q =>
  ha F ρ H σ _ k s fun vs F1 ρ1 H1 g1 k1 e1 => fun x dx hx hd ne => by
    obtain ⟨F2, ρ2, g2, k2, e2⟩ := made (C := C) k1 hx hd ne
    refine ⟨by rw [List.length_cons, pr_len e1]; exact hn, F2, ρ2, _, _, _, k2, .cons e2 (vws_go g2 e1), h, fun o ho => ?_⟩
    subst ho
    exact fun v F3 ρ3 H3 g3 k3 e3 => ⟨vw_n e3, q (.ref x) F3 ρ3 H3 ((g1.trans g2).trans g3) k3 (vw_go g3 e2)⟩
theorem evx_make {D : Addr} {μ3 : Mu} (ha : EvA K ta δ μ ws μ1) (hn : ws.length + 1 = n) (h : Φ (.p μ1.length :: ws) (μ1 ++ [.ins D []]) (· = .exc C (μ1 ++ μ3))) (hc : ClM μ1) : EvX K X (tMakeU D (spOf K n Φ) (WE X) ta) δ μ C μ1 := fun F ρ H σ Q k s q =>
  ha F ρ H σ _ k s fun vs F1 ρ1 H1 g1 k1 e1 => fun x dx hx hd ne => by
    obtain ⟨F2, ρ2, g2, k2, e2⟩ := made (C := D) k1 hx hd ne
    refine ⟨by rw [List.length_cons, pr_len e1]; exact hn, F2, ρ2, _, _, _, k2, .cons e2 (vws_go g2 e1), h, fun o ho => ?_⟩
    subst ho
    intro F3 ρ3 H3 g3 k3
    have hl : ρ1.length ≤ μ1.length := Nat.le_of_eq k1.len
    exact q F3 _ H3 (g1.trans ((g2.trans g3).cut hl)) (k3.cut hc)

/-! ### raising, trying -/
def tRaise (C : Value) (X : WX) : TS := fun _ σ H => X C none σ H
theorem st_raise (h : O (.exc C δ μ)) : St K X (tRaise C X) δ μ O := fun F ρ H σ D k s q => q _ h σ F ρ H Go.refl k s
def tTry (K : PySem.W.Frag) (c : Value) (tb : WX → TS) (ts : Addr → Value → Option Addr → TS) (X : WX) : TS := fun D σ H => tb (wOnly K c ts X D) D σ H
/-- what the body of a try must come to -/
def TryO (K : PySem.W.Frag) (X : WX) (c : Value) (ts : Addr → Value → Option Addr → TS) (O : SO → Prop) : SO → Prop
  | .exc C δ μ => ∃ b, PySem.W.exmOne K C c = some b ∧ (b = true → ∀ a, St K X (ts a C none) δ μ O) ∧ (b = false → O (.exc C δ μ))
  | o => O o
theorem st_try {c : Value} {tb : WX → TS} {ts : Addr → Value → Option Addr → TS} (h : ∀ X', St K X' (tb X') δ μ (TryO K X c ts O)) : St K X (tTry K c tb ts X) δ μ O := fun F ρ H σ D k s q =>
  h (wOnly K c ts X D) F ρ H σ D k s fun o ho => by
    cases o with
    | nx δ1 μ1 => exact q _ ho
    | brk δ1 μ1 => exact q _ ho
    | ct δ1 μ1 => exact q _ ho
    | ret w μ1 => exact q _ ho
    | exc C δ1 μ1 =>
      obtain ⟨b, e, h1, h2⟩ := ho
      exact fun σ' F' ρ' H' g' k' s' => ⟨b, e, fun hb a _ => h1 hb a F' ρ' H' σ' D k' s' fun o ho => (q o ho).go g', fun hb => q _ (h2 hb) σ' F' ρ' H' g' k' s'⟩
end

/-! ### a def -/
/-- the ends of a body, by the def's own -/
def Fin (m : Nat) (O : FO → Prop) : SO → Prop
  | .ret w μ => O (.ret w μ) ∨ ∃ μ0 junk, μ = μ0 ++ junk ∧ m ≤ μ0.length ∧ ClM μ0 ∧ ClW μ0.length w ∧ O (.ret w μ0)
  | .nx _ μ => O (.ret (.d .none) μ) ∨ ∃ μ0 junk, μ = μ0 ++ junk ∧ m ≤ μ0.length ∧ ClM μ0 ∧ O (.ret (.d .none) μ0)
  | .exc C _ μ => O (.exc C μ) ∨ ∃ μ0 junk, μ = μ0 ++ junk ∧ m ≤ μ0.length ∧ ClM μ0 ∧ O (.exc C μ0)
  | _ => False
theorem body_ok {K : PySem.W.Frag} {t : TS} {N ps : List Str} {Φ : Spec} {E : XK} {vs : List V} {H : Hp} {Q : VK}
    (hb : ∀ ws μ O, Φ ws μ O → ws.length = ps.length → ClM μ → St K (fun cls d _ H => E cls d H) t (ws.map some ++ List.replicate (N.length - ps.length) none) μ (Fin μ.length O)) (h : spOf K ps.length Φ vs H Q E) :
    t { nx := fun _ H' => Q .non H', rt := Q } (L2.start N vs) H := by
  obtain ⟨hl, F, ρ, μ, ws, O, k, pr, hΦ, hO⟩ := h
  have hw : ws.length = ps.length := (pr_len pr).symm.trans hl
  have s : Sl K F ρ (L2.start N vs) (ws.map some ++ List.replicate (N.length - ps.length) none) := by
    unfold L2.start
    rw [hl]
    refine pr_app ?_ (pr_rep (fun x e => nomatch e) _)
    clear hΦ hO hw hl
    induction pr with
    | nil => exact .nil
    | cons r t ih => exact .cons (fun x e => ⟨_, rfl, by cases e; exact r⟩) ih
  have hm : ρ.length ≤ μ.length := Nat.le_of_eq k.len
  refine hb ws μ O hΦ hw k.cl F ρ H _ _ k s fun o ho => ?_
  cases o with
  | nx δ1 μ1 =>
    intro σ' F' ρ' H' g' k' s'
    rcases ho with ho | ⟨μ0, junk, rfl, hl, hc, ho⟩
    · exact hO _ ho .non F' ρ' H' g' k' Dp.non
    · exact hO _ ho .non F' _ H' (g'.cut (Nat.le_trans hm hl)) (k'.cut hc) Dp.non
  | ret w μ1 =>
    intro v F' ρ' H' g' k' e'
    rcases ho with ho | ⟨μ0, junk, rfl, hl, hc, hw, ho⟩
    · exact hO _ ho v F' ρ' H' g' k' e'
    · exact hO _ ho v F' _ H' (g'.cut (Nat.le_trans hm hl)) (k'.cut hc) (vw_cut hw e')
  | exc C δ1 μ1 =>
    intro σ' F' ρ' H' g' k' s'
    rcases ho with ho | ⟨μ0, junk, rfl, hl, hc, ho⟩
    · exact hO _ ho F' ρ' H' g' k'
    · exact hO _ ho F' _ H' (g'.cut (Nat.le_trans hm hl)) (k'.cut hc)
  | brk δ1 μ1 => exact ho.elim
  | ct δ1 μ1 => exact ho.elim
section
variable {P : Program} {w : World} {K : PySem.W.Frag} {mg : Str → Option Value} {base : Heap}
/-- THE RULE for a def: its body as a term of rules, and what that term is worth on the plain store -/
theorem def_ok {x qual : Str} {st : Stmt} {f : Addr} {fd : FuncData} {N ps : List Str} {k n : Nat} {Φ : Spec} (F : Fun K x qual st f fd) (S : FnScope N ps (defScope st)) (hn : ps.length = n)
    (hbody : ∀ (cdv : Value) (A : Around) (outer : List Env) (s : Shared) (H : Hp) (E : XK), Room k (A.deeper (envOfC qual (defScope st) s.heap.objs.size f cdv)) →
      ∃ t, PSs (cxOf (L2.CX P w) P w K mg base N qual (defScope st) f cdv A outer s H E) (defBody st) t ∧
        ∀ ws μ O, Φ ws μ O → ws.length = n → ClM μ → St K (fun cls d _ H => E cls d H) t (ws.map some ++ List.replicate (N.length - n) none) μ (Fin μ.length O)) :
    FnOk P w K mg base (L2.CX P w) (k + 1) f fd ps (spOf K n Φ) := by
  subst hn
  refine F.okX S (fun vs H Q E h => h.1) fun cdv A outer s H vs Q E hr h => ?_
  obtain ⟨t, ht, hb⟩ := hbody cdv A outer s H E hr
  exact ⟨t, ht, body_ok hb h⟩
end
/-! ### rules -/
section
variable {X : Cx} {CX : CXT} {k : Nat} {f C : Addr} {fd : FuncData} {ps : List Str} {sp : Sp} {E : L2.St → XK} {x m : Str} {p pos apos : Pos} {e o : Expr} {es : List Expr} {ta : TE} {t : TA} {W' : WX}
theorem pe_callU (F : FnOk X.prog X.w X.K X.mg X.base (L2.CX X.prog X.w) k f fd ps sp) (hr : Room k X.A) (hg : Gl X x) (hm : X.mg x = some (.ref f)) (hk : PySem.W.keepIn X.K (.ref f) = true) (hb : Binds X.K fd ps []) (tk : Takes X W')
    (ha : PA X (e :: es) t) (hdb : (x == ("__debug__" : Str)) = false := by decide) (he : starEach (e :: es) X.env = (false, eval e X.env) :: starEach es X.env := by rfl) (hpl : (backTo pos (starEach es X.env)).any (·.1) = false := by rfl) :
    PE X (.Call (.Name x p) (e :: es) [] pos) (tCallS sp (WE W') t) := pe_callS F hr hg hm hk hb (fun σ => passAt tk σ) ha hdb he hpl
theorem pe_callU0 (F : FnOk X.prog X.w X.K X.mg X.base (L2.CX X.prog X.w) k f fd ps sp) (hr : Room k X.A) (hg : Gl X x) (hm : X.mg x = some (.ref f)) (hk : PySem.W.keepIn X.K (.ref f) = true) (hb : Binds X.K fd ps []) (tk : Takes X W')
    (hdb : (x == ("__debug__" : Str)) = false := by decide) : PE X (.Call (.Name x p) [] [] pos) (tCallS sp (WE W') tNil) := by
  refine ⟨fun pins s σ H Q I h => ?_⟩
  refine wpAny_Call_Name_kw (ld_glob I hg hm ?_ hdb)
  exact PySem.W.callWith_K0 I.kIn hk (run_fnS (us := []) F hr hb (passAt tk σ) I .nil h)
theorem pe_methU {pl : Sem Bool} (he : PE X o ta) (c : Cls X.K C) (hm : Meth X.K C m f) (F : FnOk X.prog X.w X.K X.mg X.base (L2.CX X.prog X.w) k f fd ps sp) (hr : Room k X.A) (hb : Binds X.K fd ps []) (tk : Takes X W') (ha : PA X (e :: es) t)
    (hst : starEach (e :: es) X.env = (false, eval e X.env) :: starEach es X.env := by rfl) (hpl : (backTo pos (starEach es X.env)).any (·.1) = false := by rfl)
    (ht : eval (.Call (.Attribute o m apos) (e :: es) [] pos) X.env = (do
      let ov ← eval o X.env
      standAt apos.atName
      let (f, first) ← holding [ov] (getMethod ov m pl)
      callWith pos f first (backTo pos (starEach (e :: es) X.env)) (backToKw pos (keywordEach [] X.env))) := by rfl) :
    PE X (.Call (.Attribute o m apos) (e :: es) [] pos) (tMethU C m sp (WE W') ta t) := by
  refine ⟨fun pins s σ H Q I h => ?_⟩
  refine PySem.W.methodCall_KW (pl := pl) (thn (he.run pins s σ H _ I h) fun u s1 ⟨x, H1, I1, rx, a, dx, fs, ex, ea, l, q⟩ => ?_) ht
  subst ex
  obtain rfl : u = Value.ref a := rx
  refine getmeth_ok I1 ea c hm l ?_
  refine PySem.W.callWith_K (first := [.ref a]) (h₀ := X.base) I.ok.mod.kin hm.kp (thn (ha.run pos pins s1 σ H1 _ I1 q) fun us s2 ⟨vs, H2, I2, r, q2⟩ => ⟨I2.kIn, ?_⟩) hst hpl
  exact run_fnS (us := .ref a :: us) (vs := .ref a :: vs) F hr hb (passAt tk σ) I2 (.cons rfl r) q2
theorem pe_methU0 {pl : Sem Bool} (he : PE X o ta) (c : Cls X.K C) (hm : Meth X.K C m f) (F : FnOk X.prog X.w X.K X.mg X.base (L2.CX X.prog X.w) k f fd ps sp) (hr : Room k X.A) (hb : Binds X.K fd ps []) (tk : Takes X W')
    (ht : eval (.Call (.Attribute o m apos) [] [] pos) X.env = (do
      let ov ← eval o X.env
      standAt apos.atName
      let (f, first) ← holding [ov] (getMethod ov m pl)
      callWith pos f first (backTo pos (starEach [] X.env)) (backToKw pos (keywordEach [] X.env))) := by rfl) :
    PE X (.Call (.Attribute o m apos) [] [] pos) (tMethU C m sp (WE W') ta tNil) := by
  refine ⟨fun pins s σ H Q I h => ?_⟩
  refine PySem.W.methodCall_KW (pl := pl) (thn (he.run pins s σ H _ I h) fun u s1 ⟨x, H1, I1, rx, a, dx, fs, ex, ea, l, q⟩ => ?_) ht
  subst ex
  obtain rfl : u = Value.ref a := rx
  refine getmeth_ok I1 ea c hm l ?_
  exact PySem.W.callWith_K0 (first := [.ref a]) I1.kIn hm.kp (run_fnS (us := [.ref a]) (vs := [.ref a]) F hr hb (passAt tk σ) I1 (.cons rfl .nil) q)
/-- what leaves a call leaves the caller at its slots -/
theorem run_makeU {pins : List (Addr × Obj)} {σ : L2.St} {H : Hp} {s : Shared} {Q : VK} {us : List Value} {vs : List V} (M : Mk X.K C f) (F : FnOk X.prog X.w X.K X.mg X.base (L2.CX X.prog X.w) k f fd ps sp) (hr : Room (k + 1) X.A) (hb : Binds X.K fd ps [])
    (tk : Takes X W') (I : Inv X pins σ H s) (r : Vals vs us)
    (h : ∀ x dx, H x = none → H dx = none → dx ≠ x → sp (.ref x :: vs) (upd (upd H dx (.own x)) x (.ins C dx [])) (fun v H2 => v = .non ∧ Q (.ref x) H2) (WE W' σ)) :
    wpAny (model X.prog X.w) X.A (call (.ref C) us) (EP X pins σ Q) X.xe s := by
  have hq := h (s.heap.objs.size + 1) s.heap.objs.size (I.hok.fresh (Nat.le_succ _)) (I.hok.fresh (Nat.le_refl _)) (Nat.ne_of_lt (Nat.lt_succ_self _))
  have I2 := Inv.made (C := C) I
  have r2 : Vals (V.ref (s.heap.objs.size + 1) :: vs) (Value.ref (s.heap.objs.size + 1) :: us) := .cons rfl r
  have hl : (Value.ref (s.heap.objs.size + 1) :: us).length = ps.length := by
    rw [← r2.length]
    exact F.len _ _ _ _ hq
  have b := hb _ (Value.ref (s.heap.objs.size + 1) :: us) I2.kIn (by rw [List.append_nil]; exact hl)
  rw [List.append_nil] at b
  refine wpAny_call (make_map (f := f) I.kIn M.makes M.init (beq_iff_eq.mp M.fn) (codeAny_mono (F.run _ X.stack _ _ ⟨Value.ref (s.heap.objs.size + 1) :: us, []⟩ (Value.ref (s.heap.objs.size + 1) :: us) _ _ (WE W' σ) (hr.make C us [])
    (I2.env0.make C us []) b r2 hq) fun r s' hq' => ?_))
  cases r with
  | error e => exact passAt tk σ pins _ _ e s' I2 hq'
  | ok fl =>
    cases fl with
    | ret u =>
      obtain ⟨v, H', I3, rv, ev, q3⟩ := I2.after hq'
      subst ev
      exact ⟨rv, ⟨V.ref (s.heap.objs.size + 1), H', I3, rfl, q3⟩⟩
    | next => exact False.elim hq'
    | brk => exact False.elim hq'
    | cont => exact False.elim hq'
theorem pe_makeU (M : Mk X.K C f) (F : FnOk X.prog X.w X.K X.mg X.base (L2.CX X.prog X.w) k f fd ps sp) (hr : Room (k + 1) X.A) (hg : Gl X x) (hm : X.mg x = some (.ref C)) (hb : Binds X.K fd ps []) (tk : Takes X W')
    (ha : PA X (e :: es) t) (hdb : (x == ("__debug__" : Str)) = false := by decide) (he : starEach (e :: es) X.env = (false, eval e X.env) :: starEach es X.env := by rfl) (hpl : (backTo pos (starEach es X.env)).any (·.1) = false := by rfl) :
    PE X (.Call (.Name x p) (e :: es) [] pos) (tMakeU C sp (WE W') t) := by
  refine ⟨fun pins s σ H Q I h => ?_⟩
  refine wpAny_Call_Name_kw (ld_glob I hg hm ?_ hdb)
  refine PySem.W.callWith_K (h₀ := X.base) I.ok.mod.kin M.kp (thn (ha.run pos pins s σ H _ I h) fun us s1 ⟨vs, H1, I1, r, q⟩ => ⟨I1.kIn, ?_⟩) he hpl
  exact run_makeU M F hr hb tk I1 r q
theorem pe_makeU0 (M : Mk X.K C f) (F : FnOk X.prog X.w X.K X.mg X.base (L2.CX X.prog X.w) k f fd ps sp) (hr : Room (k + 1) X.A) (hg : Gl X x) (hm : X.mg x = some (.ref C)) (hb : Binds X.K fd ps []) (tk : Takes X W')
    (hdb : (x == ("__debug__" : Str)) = false := by decide) : PE X (.Call (.Name x p) [] [] pos) (tMakeU C sp (WE W') tNil) := by
  refine ⟨fun pins s σ H Q I h => ?_⟩
  refine wpAny_Call_Name_kw (ld_glob I hg hm ?_ hdb)
  exact PySem.W.callWith_K0 I.kIn M.kp (run_makeU (us := []) M F hr hb tk I .nil h)
/-- raise X('..') -/
theorem ps_raiseU {bmB : List Value} {B newId initId : String} {mm : Str} {j : Nat} {p2 pos2 : Pos} (hc : X.calm = true) (tk : Takes X W') (F : ExcBaseFacts B newId initId bmB) (q : PySem.W.excIn X.K C bmB newId = true) (gC : X.mg x = some (.ref C)) (kC : PySem.W.keepIn X.K (.ref C) = true) (r : Raises X (.ref C)) (hg : Gl X x)
    (hdb : (x == ("__debug__" : Str)) = false := by decide) : PS X (.Raise (some (.Call (.Name x p) [.Constant (.str mm) j p2] [] pos)) none pos2) (tRaise (.ref C) W') := ps_raise hc tk (pmk_own F q gC kC r hg hdb)
end
end DL
set_option Elab.async false
set_option linter.all false
set_option maxRecDepth 100000
set_option maxHeartbeats 2000000
namespace DL
open PySem PySem.Spec PyProof.Rows L2 RZ
def r2or (r s : R2) : R2 := fun x y H Q => r x y H Q ∨ s x y H Q
theorem op_or2 {X : Cx} {f : Value → Value → Sem Value} {r s : R2} (a : OpR X f r) (b : OpR X f s) : OpR X f (r2or r s) := fun pins s σ H x y v u Q I rx ry h => by
  rcases h with h | h
  · exact a pins s σ H x y v u Q I rx ry h
  · exact b pins s σ H x y v u Q I rx ry h
def rStrCat : R2 := fun x y H Q => ∃ i j : Str, x = .str i ∧ y = .str j ∧ i.length + j.length ≤ sizeLine ∧ Q (.str (i ++ j)) H
def rAddI : R2 := rI0 fun i j => .int (i + j)
def rSubI : R2 := rI0 fun i j => .int (i - j)
def rMulI : R2 := rI CMul fun i j => .int (i * j)
def rModP : R2 := rI (fun _ j => 0 < j) fun i j => .int (i % j)
def rDivP : R2 := rI CDiv fun i j => .int (i / j)
def rPowI : R2 := rI CPow fun i j => .int (i ^ j.toNat)
def rLtI : R2 := rI0 fun i j => .bl (decide (i < j))
def rLeI : R2 := rI0 fun i j => .bl (decide (i ≤ j))
def rGtI : R2 := rI0 fun i j => .bl (decide (j < i))
def rGeI : R2 := rI0 fun i j => .bl (decide (j ≤ i))
/-- + : ints, tuples, lists -/
def rAddU (K : PySem.W.Frag) : R2 := r2or rAddI (r2or (rCatA K) rCat)
/-- * : ints, a list, a tuple -/
def rMulU (K : PySem.W.Frag) : R2 := r2or rMulI (r2or rRep (rRepT K))
/-- == : scalars, data of any depth -/
def rEqA (K : PySem.W.Frag) : R2 := r2or rEq (rEqD K)
def rNeA (K : PySem.W.Frag) : R2 := r2or rNe (rNeD K)
section
variable {X : Cx}
theorem op_addU : OpR X (binaryOp .Add) (rAddU X.K) := op_or2 op_add (op_or2 op_catA op_cat)
theorem op_subU : OpR X (binaryOp .Sub) rSubI := op_sub
theorem op_mulU : OpR X (binaryOp .Mult) (rMulU X.K) := op_or2 op_mul (op_or2 op_rep op_repT)
theorem op_modU : OpR X (binaryOp .Mod) rModP := op_mod
theorem op_divU : OpR X (binaryOp .FloorDiv) rDivP := op_fdiv
theorem op_powU : OpR X (binaryOp .Pow) rPowI := op_pow
theorem op_ltU : OpR X (compareOp .Lt) rLtI := op_lt
theorem op_leU : OpR X (compareOp .LtE) rLeI := op_le
theorem op_gtU : OpR X (compareOp .Gt) rGtI := op_gt
theorem op_geU : OpR X (compareOp .GtE) rGeI := op_ge
theorem op_eqU (hu : X.A.units + 64 < cLine) : OpR X (compareOp .Eq) (rEqA X.K) := op_or2 op_eq (op_eqD hu)
theorem op_neU (hu : X.A.units + 64 < cLine) : OpR X (compareOp .NotEq) (rNeA X.K) := op_or2 op_ne (op_neD hu)
theorem op_isU : OpR X (compareOp .Is) rIsB := op_isBl
theorem op_isnU : OpR X (compareOp .IsNot) rNotB := op_notBl
end
section
variable {K : PySem.W.Frag} {δ : Dl} {μ μ1 μ2 : Mu} {x y z : W} {r s : R2} {te : TE} {w : W} {ta : TA}
theorem rv_l (h : RV K r x y μ z μ1) : RV K (r2or r s) x y μ z μ1 := fun F ρ H v u Q k a b q => .inl (h F ρ H v u Q k a b q)
theorem rv_r (h : RV K s x y μ z μ1) : RV K (r2or r s) x y μ z μ1 := fun F ρ H v u Q k a b q => .inr (h F ρ H v u Q k a b q)
theorem rv_addI {i j : Int} : RV K (rAddU K) (.i i) (.i j) μ (.i (i + j)) μ := rv_l rv_I0
theorem rv_addT {xs ys : List PyData} (hz : xs.length + ys.length ≤ sizeLine) : RV K (rAddU K) (.d (.tuple xs)) (.d (.tuple ys)) μ (.d (.tuple (xs ++ ys))) μ := rv_r (rv_l (rv_catT hz))
theorem rv_subI {i j : Int} : RV K rSubI (.i i) (.i j) μ (.i (i - j)) μ := rv_I0
theorem rv_mulI {i j : Int} (h : CMul i j) : RV K (rMulU K) (.i i) (.i j) μ (.i (i * j)) μ := rv_l (rv_I h)
theorem rv_mulL {m : Nat} {xs : List W} {n : Int} (e : μ[m]? = some (.lst xs)) (h1 : -(2 ^ 63) ≤ n) (h2 : n < 2 ^ 63) (h3 : xs.length * n.toNat ≤ sizeLine) : RV K (rMulU K) (.p m) (.i n) μ (.p μ.length) (μ ++ [.lst (List.replicate n.toNat xs).flatten]) := rv_r (rv_l (rv_repP e h1 h2 h3))
theorem rv_mulT {xs : List PyData} {n : Int} (h0 : xs ≠ []) (h1 : 2 ≤ n) (h2 : n ≤ 1000) (h3 : xs.length ≤ 1000) : RV K (rMulU K) (.d (.tuple xs)) (.i n) μ (.d (.tuple (List.replicate n.toNat xs).flatten)) μ := rv_r (rv_r (rv_repT h0 h1 h2 h3))
theorem rv_modI {i j : Int} (h : 0 < j) : RV K rModP (.i i) (.i j) μ (.i (i % j)) μ := rv_I h
theorem rv_divI {i j : Int} (h : CDiv i j) : RV K rDivP (.i i) (.i j) μ (.i (i / j)) μ := rv_I h
theorem rv_powI {i j : Int} (h : CPow i j) : RV K rPowI (.i i) (.i j) μ (.i (i ^ j.toNat)) μ := rv_I h
theorem rv_ltI {i j : Int} : RV K rLtI (.i i) (.i j) μ (.b (decide (i < j))) μ := rv_B0
theorem rv_leI {i j : Int} : RV K rLeI (.i i) (.i j) μ (.b (decide (i ≤ j))) μ := rv_B0
theorem rv_gtI {i j : Int} : RV K rGtI (.i i) (.i j) μ (.b (decide (j < i))) μ := rv_B0
theorem rv_geI {i j : Int} : RV K rGeI (.i i) (.i j) μ (.b (decide (j ≤ i))) μ := rv_B0
theorem rv_eqI {i j : Int} : RV K (rEqA K) (.i i) (.i j) μ (.b (decide (i = j))) μ := by
  have h : RV K rEq (.d (.int i)) (.d (.int j)) μ (.b (decide (V.int i = V.int j))) μ := rv_eq rfl rfl rfl
  rw [dec_int, Bool.beq_eq_decide_eq] at h
  exact rv_l h
theorem rv_neI {i j : Int} : RV K (rNeA K) (.i i) (.i j) μ (.b (!decide (i = j))) μ := by
  have h : RV K rNe (.d (.int i)) (.d (.int j)) μ (.b (!decide (V.int i = V.int j))) μ := rv_ne rfl rfl rfl
  rw [dec_int, Bool.beq_eq_decide_eq] at h
  exact rv_l h
theorem rv_eqX {a b : PyData} (s1 : Sees μ x a) (s2 : Sees μ y b) (h1 : SeqAt.shaped a = true) (h2 : SeqAt.shaped b = true) : RV K (rEqA K) x y μ (.b (PyData.eqv a b)) μ := rv_r (rv_eqS s1 s2 h1 h2)
theorem rv_neX {a b : PyData} (s1 : Sees μ x a) (s2 : Sees μ y b) (h1 : SeqAt.shaped a = true) (h2 : SeqAt.shaped b = true) : RV K (rNeA K) x y μ (.b (!PyData.eqv a b)) μ := rv_r (rv_neS s1 s2 h1 h2)
theorem ev_notT {b : Bool} (h : Ev K te δ μ w μ1) (t : Tru μ1 w b) : Ev K (tNotT K te) δ μ (.b (!b)) μ1 := fun F ρ H σ Q k s q => by
  have h2 := et_tr h t F ρ H σ (fun c H' => Q (.bl (!c)) H') k s fun F' ρ' H' g' k' => q _ F' ρ' H' g' k' (Dp.bl _)
  exact h2
/-! ### zip -/
/-- both lists (or tuples) at once; a new pair each turn -/
theorem ei_zip {a b : W} {xs ys : List PyData} (e : EvA K ta δ μ [a, b] μ1) (h1 : Its μ1 a (xs.map .d)) (h2 : Its μ1 b (ys.map .d)) :
    EvI K (iZipA K ta) δ μ ((xs.zip ys).map fun p => .d (.tuple [p.1, p.2])) (fun μ => KpOf a (xs.map .d) μ ∧ KpOf b (ys.map .d) μ) μ1 := fun F ρ H σ R k s q =>
  e F ρ H σ _ k s fun vs F1 ρ1 H1 g1 k1 e1 => by
    cases e1 with
    | cons ea r =>
      cases r with
      | cons eb r =>
        have e0 := pr_nilR r
        subst e0
        obtain ⟨p, us, rfl, hp, pr⟩ := its_get k1 ea h1
        obtain ⟨p2, us2, rfl, hp2, pr2⟩ := its_get k1 eb h2
        refine ⟨p, p2, us, us2, rfl, .inl ⟨hp, hp2, q (Itz K p p2) F1 ρ1 H1 g1 k1 ⟨fun i wi F2 ρ2 H2 μ2 hi g2 k2 kp => ?_, fun F2 ρ2 H2 μ2 g2 k2 kp => ?_⟩⟩⟩
        all_goals (
          obtain ⟨c1, vs1, ec1, hs1, pq1⟩ := its_get k2 (vw_go g2 ea) (its_kp h1 kp.1)
          obtain ⟨c2, vs2, ec2, hs2, pq2⟩ := its_get k2 (vw_go g2 eb) (its_kp h2 kp.2)
          cases ec1
          cases ec2
          have l1 : vs1.length = xs.length := by rw [pr_len pq1, List.length_map]
          have l2 : vs2.length = ys.length := by rw [pr_len pq2, List.length_map])
        · rw [List.getElem?_map] at hi
          cases hz : (xs.zip ys)[i]? with
          | none =>
            rw [hz] at hi
            cases hi
          | some pp =>
            rw [hz] at hi
            cases hi
            obtain ⟨x', y'⟩ := pp
            obtain ⟨z1, z2⟩ := List.getElem?_zip_eq_some.mp hz
            obtain ⟨u1, hu1, ru1⟩ := pr_get pq1 (show (xs.map W.d)[i]? = some (.d x') by rw [List.getElem?_map, z1]; rfl)
            obtain ⟨u2, hu2, ru2⟩ := pr_get pq2 (show (ys.map W.d)[i]? = some (.d y') by rw [List.getElem?_map, z2]; rfl)
            refine ⟨⟨vs1, vs2, u1, u2, hs1, hs2, hu1, hu2⟩, fun x H3 y => ?_⟩
            obtain ⟨T, a1, a2, hv, hT, hH, hx1, hx2⟩ := y
            have q1 := hx1 vs1 hs1
            have q2 := hx2 vs2 hs2
            rw [hu1] at q1
            rw [hu2] at q2
            cases q1
            cases q2
            subst hv
            subst hH
            exact ok_tup (Q := fun v H3 => ∃ F3 ρ3, Go F2 ρ2 H2 F3 ρ3 H3 ∧ Ok K F3 ρ3 H3 μ2 ∧ VW K F3 ρ3 v (.d (.tuple [x', y']))) k2 (.cons (show Dp K F2 u1 x' from ru1) (.cons (show Dp K F2 u2 y' from ru2) .nil)) hT fun v F3 ρ3 H3 g3 k3 e3 => ⟨F3, ρ3, g3, k3, e3⟩
        · exact ⟨vs1, vs2, hs1, hs2, by rw [List.length_map, List.length_zip]; omega⟩
end
end DL
set_option Elab.async false
set_option linter.all false
set_option maxRecDepth 100000
set_option maxHeartbeats 2000000
namespace DL
open PySem PySem.Spec PyProof.Rows L2
section
variable {X : Cx} {x : Str} {c : Value} {body suite : List Stmt} {b₀ : Stmt} {np pos pos' : Pos} {tb : WX → TS} {ts : Addr → Value → Option Addr → TS} {Wout : WX}
theorem ps_tryU (hs : X.stack = X.env :: X.outer) (hf : X.env.frame = some X.env.locals) (hc : Names X x c) (tk : Takes X Wout)
    (hb : ∀ (W : WX) (pn : List (Addr × Obj)) (xe : Value → Shared → Prop), Takes (X.tr pn xe) W → PassesOwn (model X.prog X.w) X.A X.env xe → PSs (X.tr pn xe) body (tb W))
    (hsu : ∀ (a : Addr) (oe : Obj) (cls : Value) (d : Option Addr) (pn : List (Addr × Obj)), Zc cls d oe → (∃ vs, oe.data = .fields vs) → PSs (X.suite a ((a, oe) :: pn)) (b₀ :: suite) (ts a cls d)) :
    PS X (.Try body [.ExceptHandler (some (.Name x np)) none (b₀ :: suite) pos'] [] [] pos) (tTry X.K c tb ts Wout) := ps_try_only hs hf hc tk hb hsu
end
/-- what the law's script is -/
def scr (ns : List Int) : PyData := .list (ns.map .int)
def spLaw (K : PySem.W.Frag) : Sp := fun vs H Q _ => ∃ (a : Addr) (ns : List Int), vs = [.ref a] ∧ SqL K H a (ns.map V.int) ∧ ns.length ≤ 63 ∧ ∀ H', Q (.bl true) H'
theorem dp_ints {K : PySem.W.Frag} {F : Hp} : ∀ ns : List Int, DpAll K F (ns.map V.int) (ns.map .int)
  | [] => .nil
  | _ :: ns => .cons (.int _) (dp_ints ns)
/-- the ends of the law -/
def LawEnd : SO → Prop
  | .ret w _ => w = .b true
  | _ => False
theorem law_body {K : PySem.W.Frag} {t : TS} {N : List Str} {X : WX} {vs : List V} {H : Hp} {Q : VK} {E : XK} (hN : N.length = n + 1)
    (hb : ∀ ns : List Int, ns.length ≤ 63 → St K X t (some (.d (scr ns)) :: List.replicate n none) [] LawEnd) (h : spLaw K vs H Q E) : t { nx := fun _ H' => Q .non H', rt := Q } (L2.start N vs) H := by
  obtain ⟨a, ns, rfl, hs, hl, hQ⟩ := h
  have k : Ok K H [] H [] := ⟨Ex.refl H, rfl, List.nodup_nil, (fun a h => nomatch h), (fun n a c h => by simp at h)⟩
  have s : Sl K H [] (L2.start N [.ref a]) (some (.d (scr ns)) :: List.replicate n none) := by
    unfold L2.start
    rw [hN]
    exact .cons (fun x e => ⟨_, rfl, by cases e; exact Dp.lst hs (dp_ints ns)⟩) (pr_rep (fun x e => nomatch e) n)
  refine hb ns hl H [] H _ _ k s fun o ho => ?_
  cases o with
  | ret w μ =>
    intro v F' ρ' H' g' k' e'
    have e : w = .b true := ho
    subst e
    rw [vw_b e']
    exact hQ H'
  | nx δ μ => exact ho.elim
  | brk δ μ => exact ho.elim
  | ct δ μ => exact ho.elim
  | exc C δ μ => exact ho.elim
/-- what «except C2» says of an error of the class at C1 -/
theorem exm_of {K : PySem.W.Frag} {C1 C2 : Addr} {b : Bool} (h1 : PySem.W.subIn K (.ref C2) (.type "BaseException") = some true) (h2 : PySem.W.isClsIn K C2 = true) (h3 : PySem.W.typeIn K (.ref C2) = some (.type "type")) (h4 : PySem.W.subIn K (.ref C1) (.ref C2) = some b) :
    PySem.W.exmOne K (.ref C1) (.ref C2) = some b := by
  have e1 : (PySem.W.subIn K (.ref C2) (.type "BaseException") == some true) = true := by rw [h1] <;> rfl
  have e2 : ((PySem.W.clsIn K C2).isSome && PySem.W.typeIn K (.ref C2) == some (.type "type")) = true := by
    have h2' : (PySem.W.clsIn K C2).isSome = true := h2
    rw [h2', h3] <;> rfl
  show (if (PySem.W.subIn K (.ref C2) (.type "BaseException") == some true) = true then (if ((PySem.W.clsIn K C2).isSome && PySem.W.typeIn K (.ref C2) == some (.type "type")) = true then PySem.W.subIn K (.ref C1) (.ref C2) else none) else none) = some b
  rw [if_pos e1, if_pos e2]
  exact h4
/-- a tuple of the module -/
theorem con_tup {K : PySem.W.Frag} {c : Addr} {dd : Option Addr} {it : Array Value} {n : Nat} {sl : Array (Option Value)} {xs : List PyData} (l : K.lookup c = some ⟨.type "tuple", dd, .seq it n, sl⟩)
    (h : it.size ≤ sizeLine ∧ ∃ vs, Vals vs it.toList ∧ ∀ F, DpAll K F vs xs) : ∀ F, Dp K F (.ref c) (.tuple xs) := fun F => by
  obtain ⟨hz, vs, hv, hd⟩ := h
  exact .tup (.inr ⟨_, it, n, l, rfl, rfl, hz, hv⟩) (hd F)
/-- the law's walk: from the facts of the top -/
theorem walk {l : PySem.W.OpenLaw} {q : Program} {loose : List Str} {XP : (Str → Option Value) → Heap → Prop} {YP : World → Heap → Prop} {d : DefRec} {K : Params → PySem.W.Frag} {k : Nat} (hr : Room k callerA) (hn : l.most = some 63) (hdf : d.params.defaults = [])
    (hY : ∀ (w : World) (h : Heap), YP w h → (K w.params).In h)
    (F : ∀ (w : World) (mg : Str → Option Value) (fa : Addr) (h : Heap), (K w.params).In h → h.Ns mainGlobals mg → mg d.name = some (.ref fa) →
      ∃ fd : FuncData, (∀ (s : Shared) (u : Value), BindsTo s fd ⟨[u], []⟩ [("script", u)]) ∧ ∀ base : Heap, (K w.params).In base → base.Ns mainGlobals mg → FnOk l.prog w (K w.params) mg base CX0 k fa fd ["script"] (spLaw (K w.params))) :
    PySem.W.WalkO q loose XP YP l.row.toRowW d [] (fun f vs => PySem.call f vs) := by
  exact L2.walk_of (n := 63) (k := k) (x := "script") (CX := fun _ => CX0) (sp := fun w => spLaw (K w.params)) hn (by decide) hdf hr hY F (fun _ _ a ns hl _ hS => ⟨a, ns, rfl, hS, hl, fun _ => rfl⟩) fun _ _ _ _ _ z => z
end DL
set_option Elab.async false
set_option linter.all false
set_option maxRecDepth 100000
set_option maxHeartbeats 2000000
namespace DL
open PySem PySem.Spec PyProof.Rows L2
def iSeq (K : PySem.W.Frag) (tl : TE) : TI := fun σ H R => tl σ H fun x H1 => ∃ a, x = .ref a ∧ (((∃ xs, SqL K H1 a xs) ∧ R (Itl K a) H1) ∨ ((∃ xs, SqT K H1 a xs) ∧ R (Itt K a) H1))
theorem pi_seqU {X : Cx} {tg l : Expr} {tl : TE} (hl : PE X l tl) : PI X tg l (iSeq X.K tl) := by
  refine ⟨fun pins s σ H R I h => ?_⟩
  refine thn (hl.run pins s σ H _ I h) fun v s1 ⟨x, H1, I1, r1, q1⟩ => ?_
  obtain ⟨a, e, ⟨⟨xs, hq⟩, q⟩ | ⟨⟨xs, hq⟩, q⟩⟩ := q1
  · subst e
    cases r1
    obtain ⟨its, rv, p, hz⟩ := I1.list hq
    refine wpAny_pyIter_list p.isList ?_
    refine ⟨s1.heap.objs.size, [s1.heap.objs.size], _, _, H1, rfl, I1.kept (t' := s1.toks) fun b o e => Heap.get?_push_of_some _ e, turn_list a _, ⟨_, Heap.get?_push_size _ rfl, rfl, rfl⟩, fun b hb => ?_, q⟩
    have e : b = s1.heap.objs.size := by simpa using hb
    subst e
    exact I1.fpOk (Nat.le_refl _) (I1.hok.fresh (Nat.le_refl _))
  · subst e
    cases r1
    obtain ⟨its, rv, p, hz⟩ := I1.tuple hq
    refine wpAny_pyIter_tuple (show s1.heap.IsTuple a its.toArray from p) ?_
    refine ⟨s1.heap.objs.size, [s1.heap.objs.size], _, _, H1, rfl, I1.kept (t' := s1.toks) fun b o e => Heap.get?_push_of_some _ e, turn_tuple a _, ⟨_, Heap.get?_push_size _ rfl, rfl, rfl⟩, fun b hb => ?_, q⟩
    have e : b = s1.heap.objs.size := by simpa using hb
    subst e
    exact I1.fpOk (Nat.le_refl _) (I1.hok.fresh (Nat.le_refl _))
section
variable {K : PySem.W.Frag} {δ : Dl} {μ μ1 : Mu} {te : TE} {w : W} {ws : List W}
theorem ei_seqL (e : Ev K te δ μ w μ1) (h : Its μ1 w ws) : EvI K (iSeq K te) δ μ ws (KpOf w ws) μ1 := fun F ρ H σ R k s q =>
  ei_list e h F ρ H σ R k s q |> fun z => by
    refine e F ρ H σ _ k s fun v F1 ρ1 H1 g1 k1 e1 => ?_
    obtain ⟨a, vs, rfl, hs, pr⟩ := its_get k1 e1 h
    refine ⟨a, rfl, .inl ⟨⟨vs, hs⟩, q (Itl K a) F1 ρ1 H1 g1 k1 ⟨fun i wi F2 ρ2 H2 μ2 hi g2 k2 kp => ?_, fun F2 ρ2 H2 μ2 g2 k2 kp => ?_⟩⟩⟩
    · obtain ⟨b, us, eb, hs2, pr2⟩ := its_get k2 (vw_go g2 e1) (its_kp h kp)
      cases eb
      obtain ⟨u, hu, ru⟩ := pr_get pr2 hi
      exact ⟨⟨us, u, hs2, hu⟩, fun x H3 y => ⟨F2, ρ2, by rw [y.1]; exact Go.refl, by rw [y.1]; exact k2, by
        have z := y.2 us hs2
        rw [hu] at z
        cases z
        exact ru⟩⟩
    · obtain ⟨b, us, eb, hs2, pr2⟩ := its_get k2 (vw_go g2 e1) (its_kp h kp)
      cases eb
      exact ⟨us, hs2, by rw [pr_len pr2]; exact Nat.le_refl _⟩
theorem ei_seqT {xs : List PyData} (e : Ev K te δ μ (.d (.tuple xs)) μ1) : EvI K (iSeq K te) δ μ (xs.map .d) (fun _ => True) μ1 := fun F ρ H σ R k s q =>
  e F ρ H σ _ k s fun v F1 ρ1 H1 g1 k1 e1 => by
    obtain ⟨a, vs, rfl, hs, pr⟩ := vw_t e1
    refine ⟨a, rfl, .inr ⟨⟨vs, ex_t k1.ex hs⟩, q (Itt K a) F1 ρ1 H1 g1 k1 ⟨fun i wi F2 ρ2 H2 μ2 hi g2 k2 kp => ?_, fun F2 ρ2 H2 μ2 g2 k2 kp => ?_⟩⟩⟩
    · obtain ⟨u, hu, ru⟩ := pr_get (pr_dmap (ρ := ρ1) pr) hi
      have hs2 := ex_t k2.ex (ex_t g2.ex hs)
      exact ⟨⟨vs, u, hs2, hu⟩, fun x H3 y => ⟨F2, ρ2, by rw [y.1]; exact Go.refl, by rw [y.1]; exact k2, by
        have z := y.2 vs hs2
        rw [hu] at z
        cases z
        exact vw_go g2 ru⟩⟩
    · exact ⟨vs, ex_t k2.ex (ex_t g2.ex hs), by rw [pr_len pr, List.length_map]; exact Nat.le_refl _⟩
/-- .. either, where the store need not be looked at -/
theorem ei_seqD {x : PyData} {xs : List PyData} (e : Ev K te δ μ (.d x) μ1) (h : x = .list xs ∨ x = .tuple xs) : EvI K (iSeq K te) δ μ (xs.map .d) (fun _ => True) μ1 := by
  rcases h with rfl | rfl
  · exact ei_seqL e (.d xs)
  · exact ei_seqT e
end
theorem cxOf_K {CX : CXT} {P : Program} {w : World} {K : PySem.W.Frag} {mg : Str → Option Value} {base : Heap} {N : List Str} {qual : Str} {scope : Scope} {f : Addr} {cd : Value} {A : Around} {outer : List Env} {s : Shared} {H : Hp} {E : XK} :
    (cxOf CX P w K mg base N qual scope f cd A outer s H E).K = K := rfl
/-! what isinstance says of data -/
def isaInt : PyData → Bool
  | .bool _ => true
  | .int _ => true
  | _ => false
theorem kit_int : ∀ x : PyData, kitB (tyD x) "int" = some (isaInt x)
  | .none => (by decide +kernel : kitB "NoneType" "int" = some false)
  | .bool _ => (by decide +kernel : kitB "bool" "int" = some true)
  | .int _ => (by decide +kernel : kitB "int" "int" = some true)
  | .str _ => (by decide +kernel : kitB "str" "int" = some false)
  | .list _ => (by decide +kernel : kitB "list" "int" = some false)
  | .tuple _ => (by decide +kernel : kitB "tuple" "int" = some false)
  | .dict _ => (by decide +kernel : kitB "dict" "int" = some false)
def isaBool : PyData → Bool
  | .bool _ => true
  | _ => false
theorem kit_bool : ∀ x : PyData, kitB (tyD x) "bool" = some (isaBool x)
  | .none => (by decide +kernel : kitB "NoneType" "bool" = some false)
  | .bool _ => (by decide +kernel : kitB "bool" "bool" = some true)
  | .int _ => (by decide +kernel : kitB "int" "bool" = some false)
  | .str _ => (by decide +kernel : kitB "str" "bool" = some false)
  | .list _ => (by decide +kernel : kitB "list" "bool" = some false)
  | .tuple _ => (by decide +kernel : kitB "tuple" "bool" = some false)
  | .dict _ => (by decide +kernel : kitB "dict" "bool" = some false)
def isaStr : PyData → Bool
  | .str _ => true
  | _ => false
theorem kit_str : ∀ x : PyData, kitB (tyD x) "str" = some (isaStr x)
  | .none => (by decide +kernel : kitB "NoneType" "str" = some false)
  | .bool _ => (by decide +kernel : kitB "bool" "str" = some false)
  | .int _ => (by decide +kernel : kitB "int" "str" = some false)
  | .str _ => (by decide +kernel : kitB "str" "str" = some true)
  | .list _ => (by decide +kernel : kitB "list" "str" = some false)
  | .tuple _ => (by decide +kernel : kitB "tuple" "str" = some false)
  | .dict _ => (by decide +kernel : kitB "dict" "str" = some false)
def isaTuple : PyData → Bool
  | .tuple _ => true
  | _ => false
theorem kit_tuple : ∀ x : PyData, kitB (tyD x) "tuple" = some (isaTuple x)
  | .none => (by decide +kernel : kitB "NoneType" "tuple" = some false)
  | .bool _ => (by decide +kernel : kitB "bool" "tuple" = some false)
  | .int _ => (by decide +kernel : kitB "int" "tuple" = some false)
  | .str _ => (by decide +kernel : kitB "str" "tuple" = some false)
  | .list _ => (by decide +kernel : kitB "list" "tuple" = some false)
  | .tuple _ => (by decide +kernel : kitB "tuple" "tuple" = some true)
  | .dict _ => (by decide +kernel : kitB "dict" "tuple" = some false)
def isaList : PyData → Bool
  | .list _ => true
  | _ => false
theorem kit_list : ∀ x : PyData, kitB (tyD x) "list" = some (isaList x)
  | .none => (by decide +kernel : kitB "NoneType" "list" = some false)
  | .bool _ => (by decide +kernel : kitB "bool" "list" = some false)
  | .int _ => (by decide +kernel : kitB "int" "list" = some false)
  | .str _ => (by decide +kernel : kitB "str" "list" = some false)
  | .list _ => (by decide +kernel : kitB "list" "list" = some true)
  | .tuple _ => (by decide +kernel : kitB "tuple" "list" = some false)
  | .dict _ => (by decide +kernel : kitB "dict" "list" = some false)
def isaDict : PyData → Bool
  | .dict _ => true
  | _ => false
theorem kit_dict : ∀ x : PyData, kitB (tyD x) "dict" = some (isaDict x)
  | .none => (by decide +kernel : kitB "NoneType" "dict" = some false)
  | .bool _ => (by decide +kernel : kitB "bool" "dict" = some false)
  | .int _ => (by decide +kernel : kitB "int" "dict" = some false)
  | .str _ => (by decide +kernel : kitB "str" "dict" = some false)
  | .list _ => (by decide +kernel : kitB "list" "dict" = some false)
  | .tuple _ => (by decide +kernel : kitB "tuple" "dict" = some false)
  | .dict _ => (by decide +kernel : kitB "dict" "dict" = some true)
section
variable {K : PySem.W.Frag} {μ : Mu} {x : PyData}
theorem rc_isint : RC K (rIsi K) [.d x, .r (.ty "int")] μ (.b (isaInt x)) μ := rc_isi (kit_int x)
theorem rc_isbool : RC K (rIsi K) [.d x, .r (.ty "bool")] μ (.b (isaBool x)) μ := rc_isi (kit_bool x)
theorem rc_isstr : RC K (rIsi K) [.d x, .r (.ty "str")] μ (.b (isaStr x)) μ := rc_isi (kit_str x)
theorem rc_istuple : RC K (rIsi K) [.d x, .r (.ty "tuple")] μ (.b (isaTuple x)) μ := rc_isi (kit_tuple x)
theorem rc_islist : RC K (rIsi K) [.d x, .r (.ty "list")] μ (.b (isaList x)) μ := rc_isi (kit_list x)
theorem ev_leLe {δ : Dl} {ta tb tc : TE} {i j k : Int} (ha : Ev K ta δ μ (.i i) μ) (hb : Ev K tb δ μ (.i j) μ) (hc : Ev K tc δ μ (.i k) μ) : Ev K (tChain rLeI rLeI ta tb tc) δ μ (.b (decide (i ≤ j) && decide (j ≤ k))) μ :=
  ev_chain ha hb rv_leI (fun _ => hc) fun _ => rv_leI
theorem st_if0 {δ : Dl} {X : WX} {tt : TT} {t u : TS} {O : SO → Prop} {b : Bool} (e : EvT K tt δ μ b μ) (h1 : b = true → St K X t δ μ O) (h2 : b = false → St K X u δ μ O) : St K X (tIfS tt t u) δ μ O := st_if e h1 h2
theorem ev_lcM {δ : Dl} {μ1 : Mu} {te : TE} {tt : TT} {ws : List W} {wi : TI} {g : TG} {Kp : Mu → Prop} {vs : List Nat} {f : W → PyData} (hi : EvI K wi δ μ ws Kp μ1) (mg : Mg g) (tg : Tg g vs) (hz : ws.length ≤ sizeLine) (hk : Kp μ1)
    (hs : ∀ (i : Nat) (w : W), ws[i]? = some w → ∃ δ2, EvG K g w (wipeD δ vs) μ1 δ2 μ1 ∧ EvT K tt δ2 μ1 true μ1 ∧ Ev K te δ2 μ1 (.d (f w)) μ1) : Ev K (tLc wi g tt te vs) δ μ (.d (.list (ws.map f))) μ1 := by
  have h := ev_lcF (p := fun _ => true) (f := f) hi mg tg hz hk fun i w hw => let ⟨δ2, a, b, c⟩ := hs i w hw; ⟨δ2, a, b, fun _ => c⟩
  rw [List.filter_eq_self.mpr fun _ _ => rfl] at h
  exact h
/-! slices in plain words -/
theorem cut_take {α : Type} {xs : List α} {k : Int} (h : 0 ≤ k) : cutD xs none (some k) = xs.take k.toNat := by
  obtain ⟨n, rfl⟩ := Int.eq_ofNat_of_zero_le h
  unfold cutD
  have e : HT.sIx xs.length xs.length (some (n : Int)) = min n xs.length := HT.sIx_nat _ _ _
  rw [show HT.sIx xs.length 0 none = 0 from rfl, e, List.drop_zero, Nat.sub_zero, Int.toNat_natCast]
  by_cases q : n ≤ xs.length
  · rw [Nat.min_eq_left q]
  · rw [Nat.min_eq_right (by omega), List.take_length, List.take_of_length_le (by omega)]
theorem cut_drop {α : Type} {xs : List α} {k : Int} (h : 0 ≤ k) : cutD xs (some k) none = xs.drop k.toNat := by
  obtain ⟨n, rfl⟩ := Int.eq_ofNat_of_zero_le h
  unfold cutD
  have e : HT.sIx xs.length 0 (some (n : Int)) = min n xs.length := HT.sIx_nat _ _ _
  rw [show HT.sIx xs.length xs.length none = xs.length from rfl, e, Int.toNat_natCast]
  by_cases q : n ≤ xs.length
  · rw [Nat.min_eq_left q, List.take_of_length_le (by simp)]
  · rw [Nat.min_eq_right (by omega), List.drop_length, List.drop_of_length_le (by omega), List.take_nil]
theorem set_same {α : Type} {xs : List α} {n : Nat} {c : α} (h : xs[n]? = some c) : xs.set n c = xs := by
  obtain ⟨q, e⟩ := List.getElem?_eq_some_iff.mp h
  rw [← e]
  exact List.set_getElem_self q
theorem take_more {α : Type} {l : List α} {i : Nat} {x : α} (h : l[i]? = some x) : l.take (i + 1) = l.take i ++ [x] := by
  rw [List.take_add_one, h]
  rfl
theorem atW_last {xs : List W} {w : W} (h : xs.getLast? = some w) : atW xs (-1) = some w := by
  have hne : xs ≠ [] := fun e => by subst e; simp at h
  have hl : 0 < xs.length := List.length_pos_iff.mpr hne
  unfold atW ixN
  rw [if_neg (by decide), if_pos (by omega)]
  show xs[((-1 : Int) + (xs.length : Int)).toNat]? = some w
  rw [show ((-1 : Int) + (xs.length : Int)).toNat = xs.length - 1 by omega, ← List.getLast?_eq_getElem?]
  exact h
theorem atW_nat {xs : List W} {i : Int} {w : W} (h0 : 0 ≤ i) (h : xs[i.toNat]? = some w) : atW xs i = some w := by
  have hl := (List.getElem?_eq_some_iff.mp h).1
  unfold atW ixN
  rw [if_pos h0, if_pos (by omega)]
  exact h
theorem ixN_nat {n : Nat} {i : Int} (h0 : 0 ≤ i) (h : i < (n : Int)) : ixN n i = some i.toNat := by
  unfold ixN
  rw [if_pos h0, if_pos h]
theorem evx_makeJ {δ : Dl} {μ1 μ3 : Mu} {X : WX} {ta : TA} {ws : List W} {Φ : DL.Spec} {n : Nat} {C : Value} {D : Addr} (ha : EvA K ta δ μ ws μ1) (hn : ws.length + 1 = n) (h : Φ (.p μ1.length :: ws) (μ1 ++ [.ins D []]) (· = .exc C μ3)) : EvX K X (tMakeU D (spOf K n Φ) (WE X) ta) δ μ C μ3 := fun F ρ H σ Q k s q =>
  ha F ρ H σ _ k s fun vs F1 ρ1 H1 g1 k1 e1 => fun x dx hx hd ne => by
    obtain ⟨F2, ρ2, g2, k2, e2⟩ := made (C := D) k1 hx hd ne
    refine ⟨by rw [List.length_cons, pr_len e1]; exact hn, F2, ρ2, _, _, _, k2, .cons e2 (vws_go g2 e1), h, fun o ho => ?_⟩
    subst ho
    exact fun F3 ρ3 H3 g3 k3 => q F3 ρ3 H3 ((g1.trans g2).trans g3) k3
/-! fields looked up, put -/
theorem lk_eq {α : Type} {f : Str} {x : α} {r : List (Str × α)} : List.lookup f ((f, x) :: r) = some x := by simp [List.lookup]
theorem lk_ne {α : Type} {f g : Str} {x : α} {r : List (Str × α)} (h : ¬ f = g) : List.lookup f ((g, x) :: r) = List.lookup f r := by
  have e : (f == g) = false := by simpa using h
  simp [List.lookup, e]
theorem pu_nil {f : Str} {w : W} : putW f w [] = [(f, w)] := rfl
theorem pu_eq {f : Str} {w x : W} {r : List (Str × W)} : putW f w ((f, x) :: r) = (f, w) :: r := if_pos rfl
theorem pu_ne {f g : Str} {w x : W} {r : List (Str × W)} (h : ¬ g = f) : putW f w ((g, x) :: r) = (g, x) :: putW f w r := if_neg h
/-! cells looked up -/
theorem ga {μ ys : Mu} {k : Nat} {c : Cell} (h : μ[k]? = some c) : (μ ++ ys)[k]? = some c := by
  rw [List.getElem?_append_left (List.getElem?_eq_some_iff.mp h).1]
  exact h
theorem gs {μ : Mu} {k n : Nat} {c d : Cell} (ne : n ≠ k) (h : μ[k]? = some c) : (μ.set n d)[k]? = some c := by
  rw [List.getElem?_set_ne ne]
  exact h
theorem gS {μ : Mu} {n : Nat} {c d : Cell} (h : μ[n]? = some c) : (μ.set n d)[n]? = some d := List.getElem?_set_self (List.getElem?_eq_some_iff.mp h).1
theorem gL {μ : Mu} {c : Cell} : (μ ++ [c])[μ.length]? = some c := by simp
theorem gN {μ : Mu} {k : Nat} {c : Cell} (h : μ[k]? = some c) : μ.length ≠ k := Nat.ne_of_gt (List.getElem?_eq_some_iff.mp h).1
theorem gl {μ : Mu} {k : Nat} {c : Cell} (h : μ[k]? = some c) : k < μ.length := (List.getElem?_eq_some_iff.mp h).1
end
end DL
set_option Elab.async false
set_option linter.all false
set_option maxRecDepth 100000
set_option maxHeartbeats 4000000
namespace Mine
open PySem PySem.Spec PyProof.Rows L2 DL
/-! the text by places -/
def top (i : Nat) : Stmt := PySem.Challenge.pw_askproved_k48_tiles_and_losses_of_power.main.body.getD i (.Pass ⟨0, 0, 0, 0⟩)
abbrev s_is_number_of : Stmt := top 5
abbrev s_are_bytes : Stmt := top 6
abbrev s_Tiles_init__ : Stmt := inClass (top 11) 0
abbrev s_Tiles_count : Stmt := inClass (top 11) 1
abbrev s_Tiles_has_power : Stmt := inClass (top 11) 2
abbrev s_Tiles__checked : Stmt := inClass (top 11) 3
abbrev s_Tiles_get : Stmt := inClass (top 11) 4
abbrev s_Tiles_put : Stmt := inClass (top 11) 5
abbrev s_Tiles_settle : Stmt := inClass (top 11) 6
abbrev s_Tiles_late : Stmt := inClass (top 11) 7
abbrev s_Tiles_fail : Stmt := inClass (top 11) 8
abbrev s_Tiles_start : Stmt := inClass (top 11) 9
abbrev s_Tiles_copy : Stmt := inClass (top 11) 10
abbrev s_law_cell : Stmt := top 13
abbrev s_law_take : Stmt := top 14
abbrev s_law_next : Stmt := top 15
abbrev s_law_data : Stmt := top 16
abbrev s_law_off : Stmt := top 17
abbrev s_law_raised : Stmt := top 18
abbrev s_law : Stmt := top 19
theorem sc_is_number_of : FnScope ["value", "least", "most"] ["value", "least", "most"] (defScope s_is_number_of) := ⟨rfl, rfl, rfl, by decide +kernel, rfl, by decide +kernel, by decide +kernel⟩
theorem sc_are_bytes : FnScope ["value", "byte"] ["value"] (defScope s_are_bytes) := ⟨rfl, rfl, rfl, by decide +kernel, rfl, by decide +kernel, by decide +kernel⟩
theorem sc_Tiles_init__ : FnScope ["self", "count", "place"] ["self", "count"] (defScope s_Tiles_init__) := ⟨rfl, rfl, rfl, by decide +kernel, rfl, by decide +kernel, by decide +kernel⟩
theorem sc_Tiles_count : FnScope ["self"] ["self"] (defScope s_Tiles_count) := ⟨rfl, rfl, rfl, by decide +kernel, rfl, by decide +kernel, by decide +kernel⟩
theorem sc_Tiles_has_power : FnScope ["self"] ["self"] (defScope s_Tiles_has_power) := ⟨rfl, rfl, rfl, by decide +kernel, rfl, by decide +kernel, by decide +kernel⟩
theorem sc_Tiles__checked : FnScope ["self", "place"] ["self", "place"] (defScope s_Tiles__checked) := ⟨rfl, rfl, rfl, by decide +kernel, rfl, by decide +kernel, by decide +kernel⟩
theorem sc_Tiles_get : FnScope ["self", "place", "rows", "other", "data"] ["self", "place"] (defScope s_Tiles_get) := ⟨rfl, rfl, rfl, by decide +kernel, rfl, by decide +kernel, by decide +kernel⟩
theorem sc_Tiles_put : FnScope ["self", "place", "data"] ["self", "place", "data"] (defScope s_Tiles_put) := ⟨rfl, rfl, rfl, by decide +kernel, rfl, by decide +kernel, by decide +kernel⟩
theorem sc_Tiles_settle : FnScope ["self", "count", "place", "data"] ["self"] (defScope s_Tiles_settle) := ⟨rfl, rfl, rfl, by decide +kernel, rfl, by decide +kernel, by decide +kernel⟩
theorem sc_Tiles_late : FnScope ["self", "place", "data"] ["self"] (defScope s_Tiles_late) := ⟨rfl, rfl, rfl, by decide +kernel, rfl, by decide +kernel, by decide +kernel⟩
theorem sc_Tiles_fail : FnScope ["self", "came", "rows", "one", "place", "data"] ["self", "came"] (defScope s_Tiles_fail) := ⟨rfl, rfl, rfl, by decide +kernel, rfl, by decide +kernel, by decide +kernel⟩
theorem sc_Tiles_start : FnScope ["self"] ["self"] (defScope s_Tiles_start) := ⟨rfl, rfl, rfl, by decide +kernel, rfl, by decide +kernel, by decide +kernel⟩
theorem sc_Tiles_copy : FnScope ["self", "other"] ["self"] (defScope s_Tiles_copy) := ⟨rfl, rfl, rfl, by decide +kernel, rfl, by decide +kernel, by decide +kernel⟩
theorem sc_law_cell : FnScope ["script", "k"] ["script", "k"] (defScope s_law_cell) := ⟨rfl, rfl, rfl, by decide +kernel, rfl, by decide +kernel, by decide +kernel⟩
theorem sc_law_take : FnScope ["state", "limit", "cell", "found"] ["state", "limit"] (defScope s_law_take) := ⟨rfl, rfl, rfl, by decide +kernel, rfl, by decide +kernel, by decide +kernel⟩
theorem sc_law_next : FnScope ["state", "limit"] ["state", "limit"] (defScope s_law_next) := ⟨rfl, rfl, rfl, by decide +kernel, rfl, by decide +kernel, by decide +kernel⟩
theorem sc_law_data : FnScope ["state", "first", "k"] ["state"] (defScope s_law_data) := ⟨rfl, rfl, rfl, by decide +kernel, rfl, by decide +kernel, by decide +kernel⟩
theorem sc_law_off : FnScope ["disk", "found", "k"] ["disk"] (defScope s_law_off) := ⟨rfl, rfl, rfl, by decide +kernel, rfl, by decide +kernel, by decide +kernel⟩
theorem sc_law_raised : FnScope ["disk", "found", "k"] ["disk"] (defScope s_law_raised) := ⟨rfl, rfl, rfl, by decide +kernel, rfl, by decide +kernel, by decide +kernel⟩
theorem sc_law : FnScope ["script", "state", "many", "disk", "sure", "late", "turn", "pick", "copied", "now", "place", "data", "row", "came", "k"] ["script"] (defScope s_law) := ⟨rfl, rfl, rfl, by decide +kernel, rfl, by decide +kernel, by decide +kernel⟩
structure Ad where
  f_is_number_of : Addr
  d_is_number_of : FuncData
  f_are_bytes : Addr
  d_are_bytes : FuncData
  f_Tiles_init__ : Addr
  d_Tiles_init__ : FuncData
  f_Tiles_count : Addr
  d_Tiles_count : FuncData
  f_Tiles_has_power : Addr
  d_Tiles_has_power : FuncData
  f_Tiles__checked : Addr
  d_Tiles__checked : FuncData
  f_Tiles_get : Addr
  d_Tiles_get : FuncData
  f_Tiles_put : Addr
  d_Tiles_put : FuncData
  f_Tiles_settle : Addr
  d_Tiles_settle : FuncData
  f_Tiles_late : Addr
  d_Tiles_late : FuncData
  f_Tiles_fail : Addr
  d_Tiles_fail : FuncData
  f_Tiles_start : Addr
  d_Tiles_start : FuncData
  f_Tiles_copy : Addr
  d_Tiles_copy : FuncData
  f_law_cell : Addr
  d_law_cell : FuncData
  f_law_take : Addr
  d_law_take : FuncData
  f_law_next : Addr
  d_law_next : FuncData
  f_law_data : Addr
  d_law_data : FuncData
  f_law_off : Addr
  d_law_off : FuncData
  f_law_raised : Addr
  d_law_raised : FuncData
  f_law : Addr
  d_law : FuncData
  C_InvalidArgument : Addr
  C_PowerOff : Addr
  C_Tiles : Addr
  c_SIZE : Tok
  c_MOST : Tok
  c_BLANK : Addr
structure Txt (K : PySem.W.Frag) (mg : Str → Option Value) (a : Ad) : Prop where
  f_is_number_of : Fun K "is_number_of" "is_number_of" s_is_number_of a.f_is_number_of a.d_is_number_of
  b_is_number_of : Binds K a.d_is_number_of ["value", "least", "most"] []
  g_is_number_of : mg "is_number_of" = some (.ref a.f_is_number_of)
  f_are_bytes : Fun K "are_bytes" "are_bytes" s_are_bytes a.f_are_bytes a.d_are_bytes
  b_are_bytes : Binds K a.d_are_bytes ["value"] []
  g_are_bytes : mg "are_bytes" = some (.ref a.f_are_bytes)
  f_Tiles_init__ : Fun K "__init__" "Tiles.__init__" s_Tiles_init__ a.f_Tiles_init__ a.d_Tiles_init__
  b_Tiles_init__ : Binds K a.d_Tiles_init__ ["self", "count"] []
  m_Tiles_init__ : Meth K a.C_Tiles "__init__" a.f_Tiles_init__
  f_Tiles_count : Fun K "count" "Tiles.count" s_Tiles_count a.f_Tiles_count a.d_Tiles_count
  b_Tiles_count : Binds K a.d_Tiles_count ["self"] []
  m_Tiles_count : Meth K a.C_Tiles "count" a.f_Tiles_count
  f_Tiles_has_power : Fun K "has_power" "Tiles.has_power" s_Tiles_has_power a.f_Tiles_has_power a.d_Tiles_has_power
  b_Tiles_has_power : Binds K a.d_Tiles_has_power ["self"] []
  m_Tiles_has_power : Meth K a.C_Tiles "has_power" a.f_Tiles_has_power
  f_Tiles__checked : Fun K "_checked" "Tiles._checked" s_Tiles__checked a.f_Tiles__checked a.d_Tiles__checked
  b_Tiles__checked : Binds K a.d_Tiles__checked ["self", "place"] []
  m_Tiles__checked : Meth K a.C_Tiles "_checked" a.f_Tiles__checked
  f_Tiles_get : Fun K "get" "Tiles.get" s_Tiles_get a.f_Tiles_get a.d_Tiles_get
  b_Tiles_get : Binds K a.d_Tiles_get ["self", "place"] []
  m_Tiles_get : Meth K a.C_Tiles "get" a.f_Tiles_get
  f_Tiles_put : Fun K "put" "Tiles.put" s_Tiles_put a.f_Tiles_put a.d_Tiles_put
  b_Tiles_put : Binds K a.d_Tiles_put ["self", "place", "data"] []
  m_Tiles_put : Meth K a.C_Tiles "put" a.f_Tiles_put
  f_Tiles_settle : Fun K "settle" "Tiles.settle" s_Tiles_settle a.f_Tiles_settle a.d_Tiles_settle
  b_Tiles_settle : Binds K a.d_Tiles_settle ["self"] []
  m_Tiles_settle : Meth K a.C_Tiles "settle" a.f_Tiles_settle
  f_Tiles_late : Fun K "late" "Tiles.late" s_Tiles_late a.f_Tiles_late a.d_Tiles_late
  b_Tiles_late : Binds K a.d_Tiles_late ["self"] []
  m_Tiles_late : Meth K a.C_Tiles "late" a.f_Tiles_late
  f_Tiles_fail : Fun K "fail" "Tiles.fail" s_Tiles_fail a.f_Tiles_fail a.d_Tiles_fail
  b_Tiles_fail : Binds K a.d_Tiles_fail ["self", "came"] []
  m_Tiles_fail : Meth K a.C_Tiles "fail" a.f_Tiles_fail
  f_Tiles_start : Fun K "start" "Tiles.start" s_Tiles_start a.f_Tiles_start a.d_Tiles_start
  b_Tiles_start : Binds K a.d_Tiles_start ["self"] []
  m_Tiles_start : Meth K a.C_Tiles "start" a.f_Tiles_start
  f_Tiles_copy : Fun K "copy" "Tiles.copy" s_Tiles_copy a.f_Tiles_copy a.d_Tiles_copy
  b_Tiles_copy : Binds K a.d_Tiles_copy ["self"] []
  m_Tiles_copy : Meth K a.C_Tiles "copy" a.f_Tiles_copy
  f_law_cell : Fun K "_law_cell" "_law_cell" s_law_cell a.f_law_cell a.d_law_cell
  b_law_cell : Binds K a.d_law_cell ["script", "k"] []
  g__law_cell : mg "_law_cell" = some (.ref a.f_law_cell)
  f_law_take : Fun K "_law_take" "_law_take" s_law_take a.f_law_take a.d_law_take
  b_law_take : Binds K a.d_law_take ["state", "limit"] []
  g__law_take : mg "_law_take" = some (.ref a.f_law_take)
  f_law_next : Fun K "_law_next" "_law_next" s_law_next a.f_law_next a.d_law_next
  b_law_next : Binds K a.d_law_next ["state", "limit"] []
  g__law_next : mg "_law_next" = some (.ref a.f_law_next)
  f_law_data : Fun K "_law_data" "_law_data" s_law_data a.f_law_data a.d_law_data
  b_law_data : Binds K a.d_law_data ["state"] []
  g__law_data : mg "_law_data" = some (.ref a.f_law_data)
  f_law_off : Fun K "_law_off" "_law_off" s_law_off a.f_law_off a.d_law_off
  b_law_off : Binds K a.d_law_off ["disk"] []
  g__law_off : mg "_law_off" = some (.ref a.f_law_off)
  f_law_raised : Fun K "_law_raised" "_law_raised" s_law_raised a.f_law_raised a.d_law_raised
  b_law_raised : Binds K a.d_law_raised ["disk"] []
  g__law_raised : mg "_law_raised" = some (.ref a.f_law_raised)
  f_law : Fun K "law" "law" s_law a.f_law a.d_law
  b_law : Binds K a.d_law ["script"] []
  g_law : mg "law" = some (.ref a.f_law)
  g_InvalidArgument : mg "InvalidArgument" = some (.ref a.C_InvalidArgument)
  x_InvalidArgument : PySem.W.excIn K a.C_InvalidArgument [.type "ValueError", .type "Exception", .type "BaseException", .type "object"] "ValueError.__new__" = true
  k_InvalidArgument : PySem.W.keepIn K (.ref a.C_InvalidArgument) = true
  sb_InvalidArgument : PySem.W.subIn K (.ref a.C_InvalidArgument) (.type "BaseException") = some true
  ty_InvalidArgument : PySem.W.typeIn K (.ref a.C_InvalidArgument) = some (.type "type")
  g_PowerOff : mg "PowerOff" = some (.ref a.C_PowerOff)
  x_PowerOff : PySem.W.excIn K a.C_PowerOff [.type "ValueError", .type "Exception", .type "BaseException", .type "object"] "ValueError.__new__" = true
  k_PowerOff : PySem.W.keepIn K (.ref a.C_PowerOff) = true
  sb_PowerOff : PySem.W.subIn K (.ref a.C_PowerOff) (.type "BaseException") = some true
  ty_PowerOff : PySem.W.typeIn K (.ref a.C_PowerOff) = some (.type "type")
  g_Tiles : mg "Tiles" = some (.ref a.C_Tiles)
  c_Tiles : Cls K a.C_Tiles
  n_Tiles__sure : NoAttr K a.C_Tiles "_sure"
  n_Tiles__late : NoAttr K a.C_Tiles "_late"
  n_Tiles__power : NoAttr K a.C_Tiles "_power"
  mk_Tiles : Mk K a.C_Tiles a.f_Tiles_init__
  e_InvalidArgument_InvalidArgument : PySem.W.exmOne K (.ref a.C_InvalidArgument) (.ref a.C_InvalidArgument) = some true
  e_InvalidArgument_PowerOff : PySem.W.exmOne K (.ref a.C_InvalidArgument) (.ref a.C_PowerOff) = some false
  e_PowerOff_InvalidArgument : PySem.W.exmOne K (.ref a.C_PowerOff) (.ref a.C_InvalidArgument) = some false
  e_PowerOff_PowerOff : PySem.W.exmOne K (.ref a.C_PowerOff) (.ref a.C_PowerOff) = some true
  g_SIZE : mg "SIZE" = some (.int 48 a.c_SIZE)
  r_SIZE : RelV (.int 48) (.int 48 a.c_SIZE)
  g_MOST : mg "MOST" = some (.int 4000 a.c_MOST)
  r_MOST : RelV (.int 4000) (.int 4000 a.c_MOST)
  g_BLANK : mg "BLANK" = some (.ref a.c_BLANK)
  r_BLANK : RelV (.ref a.c_BLANK) (.ref a.c_BLANK)
  v_BLANK : ∀ F, Dp K F (.ref a.c_BLANK) (.tuple (List.replicate 48 (.int 0)))
  z_abs : mg "abs" = none
  z_bool : mg "bool" = none
  z_int : mg "int" = none
  z_isinstance : mg "isinstance" = none
  z_len : mg "len" = none
  z_list : mg "list" = none
  z_range : mg "range" = none
  z_tuple : mg "tuple" = none
  z_zip : mg "zip" = none
local macro_rules | `(tactic| walk_at "e") => `(tactic| first
  | with_reducible exact ev_int
  | with_reducible exact ev_bl
  | with_reducible exact ev_str
  | with_reducible exact ev_non
  | ((with_reducible apply ev_var); rfl)
  | with_reducible exact ea_nil
  | with_reducible exact et_nil
  | with_reducible exact eo_no
  | with_reducible exact rv_addI
  | with_reducible exact rv_subI
  | with_reducible exact rv_ltI
  | with_reducible exact rv_leI
  | with_reducible exact rv_gtI
  | with_reducible exact rv_geI
  | with_reducible exact rv_eqI
  | with_reducible exact rv_neI
  | with_reducible exact rv_isB
  | with_reducible exact rv_notB
  | ((with_reducible apply rv_modI); first | assumption | omega | skip)
  | ((with_reducible apply rv_divI); first | assumption | (constructor <;> omega) | skip)
  | with_reducible exact ru_I
  | with_reducible exact rc_abs
  | with_reducible exact rc_int
  | with_reducible exact rs_tup
  | with_reducible exact Tru.b _
  | with_reducible exact Tru.n
  | with_reducible exact DL.Seq.t _
  | with_reducible exact DL.Seq.l (Its.d _)
  | with_reducible exact Its.d _
  | with_reducible exact Sees.d _
  | ((with_reducible apply DL.Seq.l); (with_reducible apply DL.Its.p); assumption)
  | ((with_reducible apply DL.Its.p); assumption)
  | (with_reducible apply ev_op) <;> walk_at "e"
  | (with_reducible apply ev_un) <;> walk_at "e"
  | (with_reducible apply ea_cons) <;> walk_at "e"
  | (with_reducible apply ev_cb) <;> walk_at "e"
  | (with_reducible apply et_test) <;> walk_at "e"
  | (with_reducible apply et_not) <;> walk_at "e"
  | (with_reducible apply et_tr) <;> walk_at "e"
  | (with_reducible apply ev_notT) <;> walk_at "e"
  | (with_reducible apply eo_some) <;> walk_at "e"
  | ((with_reducible apply rv_ix) <;> first | ((with_reducible show atW _ _ = some _); rfl) | walk_at "e")
  | with_reducible exact rc_isint
  | with_reducible exact rc_isbool
  | with_reducible exact rc_isstr
  | with_reducible exact rc_istuple
  | with_reducible exact rc_islist
  | (with_reducible apply rc_len) <;> walk_at "e"
  | (with_reducible apply ev_leLe) <;> walk_at "e"
  | (with_reducible apply ev_fld) <;> walk_at "e"
  | (with_reducible apply ev_sl) <;> walk_at "e"
  | with_reducible exact ev_con T.v_BLANK
  | with_reducible exact ev_raw
  | with_reducible assumption
  | with_reducible rfl
  | skip)

/-! ### numbers, bytes -/
/-- a whole number from lo to hi -/
def isNum (x : PyData) (lo hi : Int) : Bool := match x with
  | .int i => decide (lo ≤ i) && decide (i ≤ hi)
  | _ => false
def phNum : DL.Spec := fun ws μ O => ∃ x lo hi, ws = [.d x, .i lo, .i hi] ∧ O (.ret (.b (isNum x lo hi)) μ)
theorem ok_is_number_of {P : Program} {w : World} {K : PySem.W.Frag} {mg : Str → Option Value} {base : Heap} {a : Ad} (T : Txt K mg a) : FnOk P w K mg base (L2.CX P w) 1 a.f_is_number_of a.d_is_number_of ["value", "least", "most"] (spOf K 3 phNum) := by
  refine def_ok T.f_is_number_of sc_is_number_of rfl fun cdv A outer s H E hr => ?_
  have hu := hr.units
  refine ⟨_, (pss_one (ps_ret (pe_and (pe_callB call_isi rfl T.z_isinstance (by decide +kernel) (pa_cons (pv 0) (pa_cons (pe_bltn (v := .ty "int") (u := .type "int") rfl T.z_int (by decide +kernel) rfl) pa_nil))) (pe_and (pe_notT (pe_callB call_isi rfl T.z_isinstance (by decide +kernel) (pa_cons (pv 0) (pa_cons (pe_bltn (v := .ty "bool") (u := .type "bool") rfl T.z_bool (by decide +kernel) rfl) pa_nil)))) (pe_one (pe_chain op_leU op_leU (pv 1) (pv 0) (pv 2))))))), ?_⟩
  try dsimp only [cxOf_K]
  rintro ws μ O ⟨x, lo, hi, rfl, hO⟩ _ _
  change St K _ _ [some _, some _, some _] _ _
  refine st_ret (w := .b (isNum x lo hi)) (μ1 := μ) ?_ (.inl hO)
  refine ev_is (ev_andV (a := isaInt x) ?_ fun h => ev_andV (a := !isaBool x) (b := isNum x lo hi) ?_ fun h2 => ?_) ?_
  · walk_at "e"
  · walk_at "e"
  · cases x with
    | int i => exact ev_leLe (ev_var rfl) (ev_var rfl) (ev_var rfl)
    | _ => exact absurd (And.intro h h2) (by simp [isaInt, isaBool])
  · cases x <;> rfl
def isBytes (x : PyData) : Bool := match x with
  | .tuple xs => xs.all fun y => isNum y 0 255
  | _ => false
def phBytes : DL.Spec := fun ws μ O => ∃ x, ws = [.d x] ∧ (∀ xs, x = .tuple xs → xs.length ≤ 1000) ∧ O (.ret (.b (isBytes x)) μ)
theorem ok_are_bytes {P : Program} {w : World} {K : PySem.W.Frag} {mg : Str → Option Value} {base : Heap} {a : Ad} (T : Txt K mg a) : FnOk P w K mg base (L2.CX P w) 2 a.f_are_bytes a.d_are_bytes ["value"] (spOf K 1 phBytes) := by
  refine def_ok T.f_are_bytes sc_are_bytes rfl fun cdv A outer s H E hr => ?_
  have hu := hr.units
  refine ⟨_, (pss_one (ps_ret (pe_and (pe_callB call_isi rfl T.z_isinstance (by decide +kernel) (pa_cons (pv 0) (pa_cons (pe_bltn (v := .ty "tuple") (u := .type "tuple") rfl T.z_tuple (by decide +kernel) rfl) pa_nil))) (pe_one (pe_notT (pe_lc (own := [("byte", 1)]) (g := (gName 1)) (tt := (tNot (tTr K (tCallS (spOf K 3 phNum) (WE (fun _ _ _ _ => False)) (tCons (tVar 1) (tCons (tC (.int 0)) (tCons (tC (.int 255)) tNil))))))) (te := (tVar 1)) rfl sc_are_bytes.nd (by exact (pi_seqU (pv 0))) (blkOk_by (own := [("byte", 1)]) (N := ["value", "byte"]) (sc := defScope s_are_bytes) (by decide +kernel)) (fun _ _ _ _ _ => by exact (pg_name (i := 1) sc_are_bytes.nd rfl (Or.inl rfl))) (fun _ _ _ _ _ => by exact (pts_one (pt_not (pt_tr (by exact (pe_callU (ok_is_number_of T) (hr.mono (by decide)) rfl T.g_is_number_of T.f_is_number_of.kp T.b_is_number_of takes0 (by exact (pa_cons (pv 1) (pa_cons pe_int (pa_cons pe_int pa_nil)))))))))) (fun _ _ _ _ _ => by exact (pv 1)))))))), ?_⟩
  try dsimp only [cxOf_K]
  rintro ws μ O ⟨x, rfl, hx, hO⟩ _ _
  change St K _ _ [some _, none] _ _
  refine st_ret (w := .b (isBytes x)) (μ1 := μ) ?_ (.inl hO)
  refine ev_is (ev_andV (a := isaTuple x) (b := isBytes x) ?_ fun h => ?_) ?_
  · walk_at "e"
  · cases x with
    | tuple xs =>
      refine ev_is (ev_notT (ev_lcF (f := fun w => match w with | .d y => y | _ => .none) (p := fun w => match w with | .d y => !isNum y 0 255 | _ => false) (ei_seqT (ev_var rfl)) mg_name (tg_name (by decide)) (by rw [List.length_map]; exact Nat.le_trans (hx _ rfl) (by decide)) trivial ?_) (.q (.l (.d _)))) ?_
      · intro i w hw
        rw [List.getElem?_map] at hw
        cases hz : xs[i]? with
        | none => rw [hz] at hw; cases hw
        | some y =>
          rw [hz] at hw
          cases hw
          refine ⟨_, eg_name, et_not (et_tr (ev_call (n := 3) (w := .b (isNum y 0 255)) (ea_cons (ev_var rfl) (ea_cons ev_int (ea_cons ev_int ea_nil))) rfl ⟨y, 0, 255, rfl, rfl⟩) (.b _)), fun _ => ev_var rfl⟩
      · show W.b _ = W.b _
        congr 1
        unfold isBytes
        rw [Bool.eq_iff_iff]
        simp [List.all_eq_true]
    | _ => exact absurd h (by simp [isaTuple])
  · cases x <;> rfl
/-! ### the law's draws -/
def lawCell (ns : List Int) (k : Int) : Int := if k < (ns.length : Int) then (let z := ns.getD k.toNat 0; if z < 0 then -z else z) else 37 * k + 11
def phCell : DL.Spec := fun ws μ O => ∃ ns k, ws = [.d (scr ns), .i k] ∧ 0 ≤ k ∧ O (.ret (.i (lawCell ns k)) μ)
theorem ok_law_cell {P : Program} {w : World} {K : PySem.W.Frag} {mg : Str → Option Value} {base : Heap} {a : Ad} (T : Txt K mg a) : FnOk P w K mg base (L2.CX P w) 1 a.f_law_cell a.d_law_cell ["script", "k"] (spOf K 2 phCell) := by
  refine def_ok T.f_law_cell sc_law_cell rfl fun cdv A outer s H E hr => ?_
  have hu := hr.units
  refine ⟨_, (pss_cons (ps_if (pt_cmpR op_ltU (pv 1) (pe_callB call_lenU rfl T.z_len (by decide +kernel) (pa_cons (pv 0) pa_nil)) (nomark _)) (pss_one (ps_ret (pe_callB call_absU rfl T.z_abs (by decide +kernel) (pa_cons (pe_callTy call_intU rfl T.z_int (by decide +kernel) (pa_cons (pe_ix ix_seq (pv 0) (pv 1) (fun _ _ => rfl)) pa_nil)) pa_nil)))) pss_nil)
    (pss_one (ps_ret (pe_op op_addU (pe_op op_mulU pe_int (pv 1)) pe_int)))), ?_⟩
  try dsimp only [cxOf_K]
  rintro ws μ O ⟨ns, k, rfl, h0, hO⟩ _ _
  change St K _ _ [some _, some _] _ _
  refine st_seq (st_if0 (b := decide (k < (ns.length : Int))) ?_ (fun h => ?_) fun h => ?_)
  · refine et_is (b := decide (k < (ns.length : Int))) (et_test (ev_op (ev_var rfl) (ev_cb (ea_cons (ev_var rfl) ea_nil) (rc_len (.l (.d _)))) rv_ltI)) ?_
    simp
  · have hk : k < (ns.length : Int) := of_decide_eq_true h
    have hi : k.toNat < ns.length := by omega
    refine st_ret (w := .i (lawCell ns k)) (μ1 := μ) ?_ (.inl hO)
    refine ev_is (ev_cb (ea_cons (ev_cb (ea_cons (ev_op (z := .i (ns.getD k.toNat 0)) (ev_var rfl) (ev_var rfl) (rv_ix (.l (.d _)) ?_)) ea_nil) rc_int) ea_nil) rc_abs) ?_
    · unfold atW ixN
      simp [h0, hk, List.getElem?_map, hi]
    · unfold lawCell
      rw [if_pos hk]
  · have hk : ¬ k < (ns.length : Int) := of_decide_eq_false h
    refine st_next ?_
    refine st_ret (w := .i (lawCell ns k)) (μ1 := μ) ?_ (.inl hO)
    refine ev_is (ev_op (ev_op ev_int (ev_var rfl) (rv_mulI (.inl ⟨by decide, by decide⟩))) ev_int rv_addI) ?_
    unfold lawCell
    rw [if_neg hk]
/-- one draw: what is found, the state behind -/
def takeF (ns : List Int) (k big lim : Int) : Int := if 0 < big then big % lim else lawCell ns k % lim
def takeK (k big : Int) : Int := if 0 < big then k else k + 1
def takeB (ns : List Int) (k big lim : Int) : Int := if 0 < big then big / lim else if 10 ^ 9 ≤ lawCell ns k then lawCell ns k / lim else big
def stW (ns : List Int) (k big : Int) : Cell := .lst [.d (scr ns), .i k, .i big]
def takeM (ns : List Int) (k big lim : Int) (n : Nat) (μ : Mu) : Mu := μ.set n (stW ns (takeK k big) (takeB ns k big lim))
def phTake : DL.Spec := fun ws μ O => ∃ n ns k big lim, ws = [.p n, .i lim] ∧ μ[n]? = some (stW ns k big) ∧ 0 ≤ k ∧ 0 < lim ∧ lim < 1073741824 ∧ O (.ret (.i (takeF ns k big lim)) (takeM ns k big lim n μ))
theorem ok_law_take {P : Program} {w : World} {K : PySem.W.Frag} {mg : Str → Option Value} {base : Heap} {a : Ad} (T : Txt K mg a) : FnOk P w K mg base (L2.CX P w) 2 a.f_law_take a.d_law_take ["state", "limit"] (spOf K 2 phTake) := by
  refine def_ok T.f_law_take sc_law_take rfl fun cdv A outer s H E hr => ?_
  have hu := hr.units
  refine ⟨_, (pss_cons (ps_if (pt_cmpR op_gtU (pe_ix ix_seq (pv 0) pe_int (fun _ _ => rfl)) pe_int (nomark _)) (pss_cons (ps_set (i := 3) sc_law_take.nd rfl (Or.inl rfl) (pe_op op_modU (pe_callTy call_intU rfl T.z_int (by decide +kernel) (pa_cons (pe_ix ix_seq (pv 0) pe_int (fun _ _ => rfl)) pa_nil)) (pv 1)))
    (pss_cons (ps_asg (pe_op op_divU (pe_callTy call_intU rfl T.z_int (by decide +kernel) (pa_cons (pe_ix ix_seq (pv 0) pe_int (fun _ _ => rfl)) pa_nil)) (pv 1)) (pg_sub (pv 0) pe_int set_list))
    (pss_one (ps_ret (pv 3))))) pss_nil)
    (pss_cons (ps_set (i := 2) sc_law_take.nd rfl (Or.inl rfl) (by exact (pe_callU (ok_law_cell T) (hr.mono (by decide)) rfl T.g__law_cell T.f_law_cell.kp T.b_law_cell (takes_of rfl rfl rfl rfl) (by exact (pa_cons (pe_ix ix_seq (pv 0) pe_int (fun _ _ => rfl)) (pa_cons (pe_ix ix_seq (pv 0) pe_int (fun _ _ => rfl)) pa_nil))))))
    (pss_cons (ps_asg (pe_op op_addU (pe_ix ix_seq (pv 0) pe_int (fun _ _ => rfl)) pe_int) (pg_sub (pv 0) pe_int set_list))
    (pss_cons (ps_if (pt_cmpR op_geU (pv 2) (pe_op op_powU pe_int pe_int) (nomark _)) (pss_one (ps_asg (pe_op op_divU (pe_callTy call_intU rfl T.z_int (by decide +kernel) (pa_cons (pv 2) pa_nil)) (pv 1)) (pg_sub (pv 0) pe_int set_list))) pss_nil)
    (pss_one (ps_ret (pe_op op_modU (pe_callTy call_intU rfl T.z_int (by decide +kernel) (pa_cons (pv 2) pa_nil)) (pv 1)))))))), ?_⟩
  try dsimp only [cxOf_K]
  rintro ws μ O ⟨n, ns, k, big, lim, rfl, hm, h0, h1, h2, hO⟩ _ _
  change St K _ _ [some _, some _, none, none] _ _
  have hlt : n < μ.length := gl hm
  unfold stW at hm
  refine st_seq (st_if0 (b := decide (0 < big)) ?_ (fun h => ?_) fun h => ?_)
  · walk_at "e"
  · have hb : 0 < big := of_decide_eq_true h
    refine st_seq (st_set (w := .i (big % lim)) (μ1 := μ) ?_ ?_)
    · walk_at "e"
    show St _ _ _ _ _ _
    dsimp only [List.set_cons_zero, List.set_cons_succ]
    refine st_seq (st_asg (w := .i (big / lim)) (μ1 := μ) ?_ (eg_subL (j := 2) (ev_var rfl) ev_int hm rfl) ?_)
    · walk_at "e"
    show St _ _ _ _ _ _
    refine st_ret (ev_var rfl) (.inl ?_)
    have e1 : takeF ns k big lim = big % lim := if_pos hb
    have e2 : takeM ns k big lim n μ = μ.set n (.lst ([W.d (scr ns), .i k, .i big].set 2 (.i (big / lim)))) := by
      unfold takeM takeK takeB
      rw [if_pos hb, if_pos hb]
      rfl
    rw [e1, e2] at hO
    exact hO
  · have hb : ¬ 0 < big := of_decide_eq_false h
    refine st_next ?_
    show St _ _ _ _ _ _
    refine st_seq (st_set (w := .i (lawCell ns k)) (μ1 := μ) ?_ ?_)
    · exact ev_call (ws := [.d (scr ns), .i k]) (μ1 := μ) (by walk_at "e") rfl ⟨ns, k, rfl, h0, rfl⟩
    show St _ _ _ _ _ _
    dsimp only [List.set_cons_zero, List.set_cons_succ]
    refine st_seq (st_asg (w := .i (k + 1)) (μ1 := μ) ?_ (eg_subL (j := 1) (ev_var rfl) ev_int hm rfl) ?_)
    · walk_at "e"
    show St _ _ _ _ _ _
    have hm2 : (μ.set n (.lst ([W.d (scr ns), .i k, .i big].set 1 (.i (k + 1)))))[n]? = some (.lst [.d (scr ns), .i (k + 1), .i big]) := gS hm
    have hpw : (10 : Int) ^ (9 : Int).toNat = 10 ^ 9 := rfl
    have e1 : takeF ns k big lim = lawCell ns k % lim := if_neg hb
    refine st_seq (st_if0 (b := decide (10 ^ 9 ≤ lawCell ns k)) ?_ (fun h => ?_) fun h => ?_)
    · exact et_test (ev_op (ev_var rfl) (ev_op ev_int ev_int (rv_powI ⟨by decide, by decide, by decide⟩)) rv_geI)
    · have hc : 10 ^ 9 ≤ lawCell ns k := of_decide_eq_true h
      refine st_asg (w := .i (lawCell ns k / lim)) (μ1 := _) ?_ (eg_subL (j := 2) (ev_var rfl) ev_int hm2 rfl) ?_
      · walk_at "e"
      show St _ _ _ _ _ _
      have e2 : (μ.set n (.lst ([W.d (scr ns), .i k, .i big].set 1 (.i (k + 1))))).set n (.lst ([W.d (scr ns), .i (k + 1), .i big].set 2 (.i (lawCell ns k / lim)))) = takeM ns k big lim n μ := by
        rw [List.set_set]
        unfold takeM takeK takeB
        rw [if_neg hb, if_neg hb, if_pos hc]
        rfl
      rw [e2]
      refine st_ret (w := .i (lawCell ns k % lim)) (μ1 := takeM ns k big lim n μ) ?_ (.inl ?_)
      · walk_at "e"
      · rw [e1] at hO
        exact hO
    · have hc : ¬ 10 ^ 9 ≤ lawCell ns k := of_decide_eq_false h
      refine st_next ?_
      show St _ _ _ _ _ _
      have e2 : (μ.set n (.lst ([W.d (scr ns), .i k, .i big].set 1 (.i (k + 1))))) = takeM ns k big lim n μ := by
        unfold takeM takeK takeB
        rw [if_neg hb, if_neg hb, if_neg hc]
        rfl
      rw [e2]
      refine st_ret (w := .i (lawCell ns k % lim)) (μ1 := takeM ns k big lim n μ) ?_ (.inl ?_)
      · walk_at "e"
      · rw [e1] at hO
        exact hO
theorem ok_law_next {P : Program} {w : World} {K : PySem.W.Frag} {mg : Str → Option Value} {base : Heap} {a : Ad} (T : Txt K mg a) : FnOk P w K mg base (L2.CX P w) 3 a.f_law_next a.d_law_next ["state", "limit"] (spOf K 2 phTake) := by
  refine def_ok T.f_law_next sc_law_next rfl fun cdv A outer s H E hr => ?_
  have hu := hr.units
  refine ⟨_, (pss_one (ps_ret (by exact (pe_callU (ok_law_take T) (hr.mono (by decide)) rfl T.g__law_take T.f_law_take.kp T.b_law_take (takes_of rfl rfl rfl rfl) (by exact (pa_cons (pv 0) (pa_cons (pv 1) pa_nil))))))), ?_⟩
  try dsimp only [cxOf_K]
  rintro ws μ O ⟨n, ns, k, big, lim, rfl, hm, h0, h1, h2, hO⟩ _ _
  change St K _ _ [some _, some _] _ _
  refine st_ret (w := .i (takeF ns k big lim)) (μ1 := takeM ns k big lim n μ) ?_ (.inl hO)
  exact ev_call (ea_cons (ev_var rfl) (ea_cons (ev_var rfl) ea_nil)) rfl ⟨n, ns, k, big, lim, rfl, hm, h0, h1, h2, rfl⟩
def tileD (t : List Int) : PyData := .tuple (t.map .int)
def dataT (first : Int) : List Int := (List.range 48).map fun k => (first + (k : Nat) * 5) % 256
def phData : DL.Spec := fun ws μ O => ∃ n ns k big, ws = [.p n] ∧ μ[n]? = some (stW ns k big) ∧ 0 ≤ k ∧ O (.ret (.d (tileD (dataT (takeF ns k big 250)))) (takeM ns k big 250 n μ))
theorem ok_law_data {P : Program} {w : World} {K : PySem.W.Frag} {mg : Str → Option Value} {base : Heap} {a : Ad} (T : Txt K mg a) : FnOk P w K mg base (L2.CX P w) 4 a.f_law_data a.d_law_data ["state"] (spOf K 1 phData) := by
  refine def_ok T.f_law_data sc_law_data rfl fun cdv A outer s H E hr => ?_
  have hu := hr.units
  refine ⟨_, (pss_cons (ps_set (i := 1) sc_law_data.nd rfl (Or.inr rfl) (by exact (pe_callU (ok_law_next T) (hr.mono (by decide)) rfl T.g__law_next T.f_law_next.kp T.b_law_next (takes_of rfl rfl rfl rfl) (by exact (pa_cons (pv 0) (pa_cons pe_int pa_nil))))))
    (pss_one (ps_ret (pe_callTy call_tupU rfl T.z_tuple (by decide +kernel) (pa_cons (pe_lc (own := [("k", 2)]) (g := (gName 2)) (tt := tYes) (te := (tOp rModP (tCB rIntU (tCons (tOp (rAddU K) (tVar 1) (tOp (rMulU K) (tVar 2) (tC (.int 5)))) tNil)) (tC (.int 256)))) rfl sc_law_data.nd (by exact (pi_range1 rfl T.z_range (pa_cons pe_int pa_nil))) (blkOk_by (own := [("k", 2)]) (N := ["state", "first", "k"]) (sc := defScope s_law_data) (by decide +kernel)) (fun _ _ _ _ _ => by exact (pg_name (i := 2) sc_law_data.nd rfl (Or.inl rfl))) (fun _ _ _ _ _ => by exact pts_nil) (fun _ _ _ _ _ => by exact (pe_op op_modU (pe_callTy call_intU rfl T.z_int (by decide +kernel) (pa_cons (pe_op op_addU (pv 1) (pe_op op_mulU (pv 2) pe_int)) pa_nil)) pe_int))) pa_nil))))), ?_⟩
  try dsimp only [cxOf_K]
  rintro ws μ O ⟨n, ns, k, big, rfl, hm, h0, hO⟩ _ _
  change St K _ _ [some _, none, none] _ _
  refine st_seq (st_set (w := .i (takeF ns k big 250)) (μ1 := takeM ns k big 250 n μ) ?_ ?_)
  · exact ev_call (ea_cons (ev_var rfl) (ea_cons ev_int ea_nil)) rfl ⟨n, ns, k, big, 250, rfl, hm, h0, by decide, by decide, rfl⟩
  show St _ _ _ _ _ _
  dsimp only [List.set_cons_zero, List.set_cons_succ]
  generalize takeF ns k big 250 = first at hO ⊢
  generalize takeM ns k big 250 n μ = μ2 at hO ⊢
  refine st_ret (w := .d (tileD (dataT first))) (μ1 := μ2) ?_ (.inl hO)
  refine ev_cb (ea_cons (ev_lcM (f := fun w => match w with | .d (.int y) => .int ((first + y * 5) % 256) | _ => .none) (ei_rng1 (ea_cons ev_int ea_nil) (by decide) (by decide)) mg_name (tg_name (by decide)) (by decide) trivial ?_) ea_nil) (rc_tup (.l ?_))
  · intro i w hw
    unfold rangeW at hw
    rw [List.getElem?_map] at hw
    cases hz : (List.range (48 : Int).toNat)[i]? with
    | none => rw [hz] at hw; cases hw
    | some y =>
      rw [hz] at hw
      cases hw
      refine ⟨_, eg_name, et_nil, ?_⟩
      refine ev_op (ev_cb (ea_cons (ev_op (ev_var rfl) (ev_op (ev_var rfl) ev_int (rv_mulI (.inr ⟨by decide, by decide⟩))) rv_addI) ea_nil) rc_int) ev_int (rv_modI (by decide))
  · have e : (rangeW 0 (48 : Int).toNat).map (fun w => match w with | .d (.int y) => PyData.int ((first + y * 5) % 256) | _ => .none) = (dataT first).map .int := by
      unfold rangeW dataT
      rw [List.map_map, List.map_map]
      refine List.map_congr_left fun i _ => ?_
      simp
    rw [e]
    exact .d _
end Mine

set_option Elab.async false
set_option linter.all false
set_option maxRecDepth 100000
set_option maxHeartbeats 4000000
namespace Mine
open PySem PySem.Spec PyProof.Rows L2 DL

local macro_rules | `(tactic| walk_at "e") => `(tactic| first
  | with_reducible exact ev_int
  | with_reducible exact ev_bl
  | with_reducible exact ev_str
  | with_reducible exact ev_non
  | ((with_reducible apply ev_var); rfl)
  | with_reducible exact ea_nil
  | with_reducible exact et_nil
  | with_reducible exact eo_no
  | with_reducible exact rv_addI
  | with_reducible exact rv_subI
  | with_reducible exact rv_ltI
  | with_reducible exact rv_leI
  | with_reducible exact rv_gtI
  | with_reducible exact rv_geI
  | with_reducible exact rv_eqI
  | with_reducible exact rv_neI
  | with_reducible exact rv_isB
  | with_reducible exact rv_notB
  | ((with_reducible apply rv_modI); first | assumption | omega | skip)
  | ((with_reducible apply rv_divI); first | assumption | (constructor <;> omega) | skip)
  | with_reducible exact ru_I
  | with_reducible exact rc_abs
  | with_reducible exact rc_int
  | with_reducible exact rs_tup
  | with_reducible exact Tru.b _
  | with_reducible exact Tru.n
  | with_reducible exact DL.Seq.t _
  | with_reducible exact DL.Seq.l (Its.d _)
  | with_reducible exact Its.d _
  | with_reducible exact Sees.d _
  | ((with_reducible apply DL.Seq.l); (with_reducible apply DL.Its.p); assumption)
  | ((with_reducible apply DL.Its.p); assumption)
  | (with_reducible apply ev_op) <;> walk_at "e"
  | (with_reducible apply ev_un) <;> walk_at "e"
  | (with_reducible apply ea_cons) <;> walk_at "e"
  | (with_reducible apply ev_cb) <;> walk_at "e"
  | (with_reducible apply et_test) <;> walk_at "e"
  | (with_reducible apply et_not) <;> walk_at "e"
  | (with_reducible apply et_tr) <;> walk_at "e"
  | (with_reducible apply ev_notT) <;> walk_at "e"
  | (with_reducible apply eo_some) <;> walk_at "e"
  | ((with_reducible apply rv_ix) <;> first | ((with_reducible show atW _ _ = some _); rfl) | walk_at "e")
  | with_reducible exact rc_isint
  | with_reducible exact rc_isbool
  | with_reducible exact rc_isstr
  | with_reducible exact rc_istuple
  | with_reducible exact rc_islist
  | (with_reducible apply rc_len) <;> walk_at "e"
  | (with_reducible apply ev_leLe) <;> walk_at "e"
  | (with_reducible apply ev_fld) <;> walk_at "e"
  | (with_reducible apply ev_sl) <;> walk_at "e"
  | with_reducible exact ev_con T.v_BLANK
  | with_reducible exact ev_raw
  | with_reducible assumption
  | with_reducible rfl
  | skip)

theorem n_ls : ¬ ("_late" : Str) = "_sure" := by decide +kernel
theorem n_sl : ¬ ("_sure" : Str) = "_late" := by decide +kernel
theorem n_ps : ¬ ("_power" : Str) = "_sure" := by decide +kernel
theorem n_pl : ¬ ("_power" : Str) = "_late" := by decide +kernel
theorem n_sp : ¬ ("_sure" : Str) = "_power" := by decide +kernel
theorem n_lp : ¬ ("_late" : Str) = "_power" := by decide +kernel
def tf (s l : Nat) (pw : Bool) : List (Str × W) := [("_sure", .p s), ("_late", .p l), ("_power", .b pw)]
theorem tf_sure (s l : Nat) (pw : Bool) : (tf s l pw).lookup ("_sure" : Str) = some (.p s) := lk_eq
theorem tf_late (s l : Nat) (pw : Bool) : (tf s l pw).lookup ("_late" : Str) = some (.p l) := (lk_ne n_ls).trans lk_eq
theorem tf_power (s l : Nat) (pw : Bool) : (tf s l pw).lookup ("_power" : Str) = some (.b pw) := (lk_ne n_ps).trans ((lk_ne n_pl).trans lk_eq)
theorem tf_no (s l : Nat) (pw : Bool) {m : Str} (h1 : ¬ m = "_sure") (h2 : ¬ m = "_late") (h3 : ¬ m = "_power") : (tf s l pw).lookup m = none := (lk_ne h1).trans ((lk_ne h2).trans ((lk_ne h3).trans rfl))
theorem tf_pl (s l k : Nat) (pw : Bool) : putW "_late" (.p k) (tf s l pw) = tf s k pw := by
  unfold tf
  rw [pu_ne n_sl, pu_eq]
theorem tf_ps (s l k : Nat) (pw : Bool) : putW "_sure" (.p k) (tf s l pw) = tf k l pw := by
  unfold tf
  rw [pu_eq]
theorem tf_pp (s l : Nat) (pw q : Bool) : putW "_power" (.b q) (tf s l pw) = tf s l q := by
  unfold tf
  rw [pu_ne n_sp, pu_ne n_lp, pu_eq]
def pairD (q : Int × List Int) : PyData := .tuple [.int q.1, tileD q.2]
def sureW (sure : List (List Int)) : List W := (sure.map tileD).map .d
def lateW (late : List (Int × List Int)) : List W := (late.map pairD).map .d
/-- the disk at p: what is sure, what is late, whether there is power -/
structure TilesAt (C : Addr) (μ : Mu) (p s l : Nat) (sure : List (List Int)) (late : List (Int × List Int)) (pw : Bool) : Prop where
  ob : μ[p]? = some (.ins C (tf s l pw))
  hs : μ[s]? = some (.lst (sureW sure))
  hl : μ[l]? = some (.lst (lateW late))
  zs : sure.length ≤ 4000
  zl : late.length ≤ 1000
  ne : s ≠ l
def blank : List Int := List.replicate 48 0
theorem blank_D : tileD blank = .tuple (List.replicate 48 (.int 0)) := by
  unfold tileD blank
  rw [List.map_replicate]
def initM (C : Addr) (p n : Nat) (μ : Mu) : Mu :=
  let m1 := μ ++ [.lst (sureW (List.replicate n blank))]
  let m2 := m1.set p (.ins C [("_sure", .p μ.length)])
  let m3 := m2 ++ [.lst []]
  let m4 := m3.set p (.ins C [("_sure", .p μ.length), ("_late", .p m2.length)])
  m4.set p (.ins C (tf μ.length m2.length true))
def phInit (a : Ad) : DL.Spec := fun ws μ O => ∃ p x, ws = [.p p, .d x] ∧ μ[p]? = some (.ins a.C_Tiles []) ∧
  ((isNum x 1 4000 = false ∧ O (.exc (.ref a.C_InvalidArgument) μ)) ∨ ∃ n : Nat, x = .int n ∧ 1 ≤ n ∧ n ≤ 4000 ∧ O (.ret (.d .none) (initM a.C_Tiles p n μ)))
theorem ok_Tiles_init__ {P : Program} {w : World} {K : PySem.W.Frag} {mg : Str → Option Value} {base : Heap} {a : Ad} (T : Txt K mg a) : FnOk P w K mg base (L2.CX P w) 2 a.f_Tiles_init__ a.d_Tiles_init__ ["self", "count"] (spOf K 2 (phInit a)) := by
  refine def_ok T.f_Tiles_init__ sc_Tiles_init__ rfl fun cdv A outer s H E hr => ?_
  have hu := hr.units
  refine ⟨_, (pss_cons (ps_if (pt_not (pt_tr (by exact (pe_callU (ok_is_number_of T) (hr.mono (by decide)) rfl T.g_is_number_of T.f_is_number_of.kp T.b_is_number_of (takes_of rfl rfl rfl rfl) (by exact (pa_cons (pv 1) (pa_cons pe_int (pa_cons (pe_glob rfl T.g_MOST T.r_MOST) pa_nil)))))))) (pss_one (ps_raiseU rfl (takes_of rfl rfl rfl rfl) PySem.F.excBase_ValueError T.x_InvalidArgument T.g_InvalidArgument T.k_InvalidArgument (raises_own T.sb_InvalidArgument T.ty_InvalidArgument) rfl)) pss_nil)
    (pss_cons (ps_fld (pv 0) (pe_lc (own := [("place", 2)]) (g := (gName 2)) (tt := tYes) (te := (tC (.ref a.c_BLANK))) rfl sc_Tiles_init__.nd (by exact (pi_range1 rfl T.z_range (pa_cons (pv 1) pa_nil))) (blkOk_by (own := [("place", 2)]) (N := ["self", "count", "place"]) (sc := defScope s_Tiles_init__) (by decide +kernel)) (fun _ _ _ _ _ => by exact (pg_name (i := 2) sc_Tiles_init__.nd rfl (Or.inl rfl))) (fun _ _ _ _ _ => by exact pts_nil) (fun _ _ _ _ _ => by exact (pe_glob rfl T.g_BLANK T.r_BLANK))) rfl)
    (pss_cons (ps_fld (pv 0) (pe_lst pa_nil) rfl)
    (pss_one (ps_fld (pv 0) pe_bl rfl))))), ?_⟩
  try dsimp only [cxOf_K]
  rintro ws μ O ⟨p, x, rfl, hp, hO⟩ _ _
  change St K _ _ [some _, some _, none] _ _
  refine st_seq (st_if0 (b := !isNum x 1 4000) ?_ (fun h => ?_) fun h => ?_)
  · exact et_not (et_tr (ev_call (ws := [.d x, .i 1, .i 4000]) (μ1 := μ) (by walk_at "e") rfl ⟨x, 1, 4000, rfl, rfl⟩) (.b _))
  · rcases hO with ⟨_, hO⟩ | ⟨n, rfl, h1, h2, _⟩
    · exact st_raise (.inl hO)
    · exact absurd h (by simp [isNum]; omega)
  · refine st_next ?_
    show St _ _ _ _ _ _
    rcases hO with ⟨hf, _⟩ | ⟨n, rfl, h1, h2, hO⟩
    · rw [hf] at h
      cases h
    have hs : Ev K (tLc (iRng1 (tCons (tVar 1) tNil)) (gName 2) tYes (tC (V.ref a.c_BLANK)) [2]) [some (.p p), some (.i n), none] μ (.p μ.length) (μ ++ [.lst (sureW (List.replicate n blank))]) := by
      refine ev_lcP (ei_rng1 (ea_cons (ev_var rfl) ea_nil) (by omega) (by omega)) mg_name (tg_name (by decide)) (by rw [rangeW_len]; exact Nat.le_trans (show (n : Int).toNat ≤ 4000 by omega) (by decide)) (fun i μi acc => μi = μ ∧ acc = sureW (List.replicate i blank)) ⟨rfl, rfl⟩ (fun _ _ _ _ => trivial) ?_ ?_
      · rintro i w μi acc hw ⟨rfl, rfl⟩
        refine ⟨_, _, true, _, eg_name, et_nil, fun _ => ⟨_, _, ev_con T.v_BLANK, rfl, ?_⟩, fun q => nomatch q⟩
        unfold sureW
        rw [← blank_D, List.replicate_succ', List.map_append, List.map_append]
        rfl
      · rintro μi acc ⟨rfl, rfl⟩
        rw [rangeW_len]
        exact ⟨rfl, rfl⟩
    have e1 := ga (ys := [.lst (sureW (List.replicate n blank))]) hp
    refine st_seq (st_fld hs (ev_var rfl) e1 T.c_Tiles T.n_Tiles__sure (by show 0 < 1000; decide) ?_)
    show St _ _ _ _ _ _
    rw [pu_nil]
    have e2 := gS (d := .ins a.C_Tiles [("_sure", .p μ.length)]) e1
    have e3 := ga (ys := [.lst []]) e2
    refine st_seq (st_fld (ev_lstP ea_nil (by decide)) (ev_var rfl) e3 T.c_Tiles T.n_Tiles__late (by show 1 < 1000; decide) ?_)
    show St _ _ _ _ _ _
    rw [pu_ne n_sl, pu_nil]
    have e4 := gS (d := .ins a.C_Tiles [("_sure", .p μ.length), ("_late", W.p ((μ ++ [Cell.lst (sureW (List.replicate n blank))]).set p (Cell.ins a.C_Tiles [("_sure", W.p μ.length)])).length)]) e3
    refine st_fld ev_bl (ev_var rfl) e4 T.c_Tiles T.n_Tiles__power (by show 2 < 1000; decide) ?_
    rw [pu_ne n_sp, pu_ne n_lp, pu_nil]
    exact .inl hO
def phCount (a : Ad) : DL.Spec := fun ws μ O => ∃ p s l sure late pw, ws = [.p p] ∧ TilesAt a.C_Tiles μ p s l sure late pw ∧ O (.ret (.i (sure.length : Nat)) μ)
theorem ok_Tiles_count {P : Program} {w : World} {K : PySem.W.Frag} {mg : Str → Option Value} {base : Heap} {a : Ad} (T : Txt K mg a) : FnOk P w K mg base (L2.CX P w) 1 a.f_Tiles_count a.d_Tiles_count ["self"] (spOf K 1 (phCount a)) := by
  refine def_ok T.f_Tiles_count sc_Tiles_count rfl fun cdv A outer s H E hr => ?_
  have hu := hr.units
  refine ⟨_, (pss_one (ps_ret (pe_callB call_lenU rfl T.z_len (by decide +kernel) (pa_cons (pe_fld (pv 0) rfl) pa_nil)))), ?_⟩
  try dsimp only [cxOf_K]
  rintro ws μ O ⟨p, s, l, sure, late, pw, rfl, t, hO⟩ _ _
  change St K _ _ [some _] _ _
  refine st_ret (ev_is (ev_cb (ea_cons (ev_fld (ev_var rfl) t.ob T.c_Tiles T.n_Tiles__sure (tf_sure _ _ _)) ea_nil) (rc_len (.l (.p t.hs)))) ?_) (.inl hO)
  simp [sureW]
def phPower (a : Ad) : DL.Spec := fun ws μ O => ∃ p s l pw, ws = [.p p] ∧ μ[p]? = some (.ins a.C_Tiles (tf s l pw)) ∧ O (.ret (.b pw) μ)
theorem ok_Tiles_has_power {P : Program} {w : World} {K : PySem.W.Frag} {mg : Str → Option Value} {base : Heap} {a : Ad} (T : Txt K mg a) : FnOk P w K mg base (L2.CX P w) 1 a.f_Tiles_has_power a.d_Tiles_has_power ["self"] (spOf K 1 (phPower a)) := by
  refine def_ok T.f_Tiles_has_power sc_Tiles_has_power rfl fun cdv A outer s H E hr => ?_
  have hu := hr.units
  refine ⟨_, (pss_one (ps_ret (pe_fld (pv 0) rfl))), ?_⟩
  try dsimp only [cxOf_K]
  rintro ws μ O ⟨p, s, l, pw, rfl, t, hO⟩ _ _
  change St K _ _ [some _] _ _
  exact st_ret (ev_fld (ev_var rfl) t T.c_Tiles T.n_Tiles__power (tf_power _ _ _)) (.inl hO)
/-- a place of the disk is asked: whether it is one -/
def phChecked (a : Ad) : DL.Spec := fun ws μ O => ∃ p s l sure late pw x, ws = [.p p, .d x] ∧ TilesAt a.C_Tiles μ p s l sure late pw ∧
  (pw = false → O (.exc (.ref a.C_PowerOff) μ)) ∧ (pw = true → isNum x 0 ((sure.length : Int) - 1) = false → O (.exc (.ref a.C_InvalidArgument) μ)) ∧ (pw = true → isNum x 0 ((sure.length : Int) - 1) = true → O (.ret (.d .none) μ))
theorem ok_Tiles__checked {P : Program} {w : World} {K : PySem.W.Frag} {mg : Str → Option Value} {base : Heap} {a : Ad} (T : Txt K mg a) : FnOk P w K mg base (L2.CX P w) 2 a.f_Tiles__checked a.d_Tiles__checked ["self", "place"] (spOf K 2 (phChecked a)) := by
  refine def_ok T.f_Tiles__checked sc_Tiles__checked rfl fun cdv A outer s H E hr => ?_
  have hu := hr.units
  refine ⟨_, (pss_cons (ps_if (pt_not (pt_tr (pe_fld (pv 0) rfl))) (pss_one (ps_raiseU rfl (takes_of rfl rfl rfl rfl) PySem.F.excBase_ValueError T.x_PowerOff T.g_PowerOff T.k_PowerOff (raises_own T.sb_PowerOff T.ty_PowerOff) rfl)) pss_nil)
    (pss_one (ps_if (pt_not (pt_tr (by exact (pe_callU (ok_is_number_of T) (hr.mono (by decide)) rfl T.g_is_number_of T.f_is_number_of.kp T.b_is_number_of (takes_of rfl rfl rfl rfl) (by exact (pa_cons (pv 1) (pa_cons pe_int (pa_cons (pe_op op_subU (pe_callB call_lenU rfl T.z_len (by decide +kernel) (pa_cons (pe_fld (pv 0) rfl) pa_nil)) pe_int) pa_nil)))))))) (pss_one (ps_raiseU rfl (takes_of rfl rfl rfl rfl) PySem.F.excBase_ValueError T.x_InvalidArgument T.g_InvalidArgument T.k_InvalidArgument (raises_own T.sb_InvalidArgument T.ty_InvalidArgument) rfl)) pss_nil))), ?_⟩
  try dsimp only [cxOf_K]
  rintro ws μ O ⟨p, s, l, sure, late, pw, x, rfl, t, o1, o2, o3⟩ _ _
  change St K _ _ [some _, some _] _ _
  refine st_seq (st_if0 (b := !pw) ?_ (fun h => ?_) fun h => ?_)
  · exact et_not (et_tr (ev_fld (ev_var rfl) t.ob T.c_Tiles T.n_Tiles__power (tf_power _ _ _)) (.b _))
  · exact st_raise (.inl (o1 (by simpa using h)))
  · have hp : pw = true := by simpa using h
    refine st_next ?_
    show St _ _ _ _ _ _
    refine st_if0 (b := !isNum x 0 ((sure.length : Int) - 1)) ?_ (fun h => ?_) fun h => ?_
    · refine et_not (et_tr (ev_call (ws := [.d x, .i 0, .i ((sure.length : Int) - 1)]) (μ1 := μ) (ea_cons (ev_var rfl) (ea_cons ev_int (ea_cons (ev_is (ev_op (ev_cb (ea_cons (ev_fld (ev_var rfl) t.ob T.c_Tiles T.n_Tiles__sure (tf_sure _ _ _)) ea_nil) (rc_len (.l (.p t.hs)))) ev_int rv_subI) ?_) ea_nil))) rfl ⟨_, _, _, rfl, rfl⟩) (.b _))
      simp [sureW]
    · exact st_raise (.inl (o2 hp (by simpa using h)))
    · exact st_next (.inl (o3 hp (by simpa using h)))
def phLate (a : Ad) : DL.Spec := fun ws μ O => ∃ p s l sure late pw, ws = [.p p] ∧ TilesAt a.C_Tiles μ p s l sure late pw ∧ O (.ret (.d (.list (late.map fun q => .int q.1))) μ)
theorem ok_Tiles_late {P : Program} {w : World} {K : PySem.W.Frag} {mg : Str → Option Value} {base : Heap} {a : Ad} (T : Txt K mg a) : FnOk P w K mg base (L2.CX P w) 1 a.f_Tiles_late a.d_Tiles_late ["self"] (spOf K 1 (phLate a)) := by
  refine def_ok T.f_Tiles_late sc_Tiles_late rfl fun cdv A outer s H E hr => ?_
  have hu := hr.units
  refine ⟨_, (pss_one (ps_ret (pe_lc (own := [("place", 1), ("data", 2)]) (g := (gTup K 2 (gCons (gName 1) (gCons (gName 2) gNil)))) (tt := tYes) (te := (tVar 1)) rfl sc_Tiles_late.nd (by exact (pi_seqU (pe_fld (pv 0) rfl))) (blkOk_by (own := [("place", 1), ("data", 2)]) (N := ["self", "place", "data"]) (sc := defScope s_Tiles_late) (by decide +kernel)) (fun _ _ _ _ _ => by exact (pg_tup rfl (pgs_cons (pg_name (i := 1) sc_Tiles_late.nd rfl (Or.inl rfl)) (pgs_cons (pg_name (i := 2) sc_Tiles_late.nd rfl (Or.inl rfl)) pgs_nil)))) (fun _ _ _ _ _ => by exact pts_nil) (fun _ _ _ _ _ => by exact (pv 1))))), ?_⟩
  try dsimp only [cxOf_K]
  rintro ws μ O ⟨p, s, l, sure, late, pw, rfl, t, hO⟩ _ _
  change St K _ _ [some _, none, none] _ _
  refine st_ret (ev_is (ev_lcM (f := fun w => match w with | .d (.tuple [x, _]) => x | _ => .none) (ei_seqL (ev_fld (ev_var rfl) t.ob T.c_Tiles T.n_Tiles__late (tf_late _ _ _)) (.p t.hl)) (mg_tup (mgs_cons mg_name (mgs_cons mg_name mgs_nil))) (tg_tup (tgs_cons mg_name (mgs_cons mg_name mgs_nil) (tg_name (by decide)) (tgs_cons mg_name mgs_nil (tg_name (by decide)) tgs_nil))) ?_ t.hl ?_) ?_) (.inl hO)
  · simp [lateW]
    exact Nat.le_trans t.zl (by decide)
  · intro i w hw
    unfold lateW at hw
    rw [List.getElem?_map, List.getElem?_map] at hw
    cases hz : late[i]? with
    | none => rw [hz] at hw; cases hw
    | some q =>
      rw [hz] at hw
      cases hw
      exact ⟨_, eg_tup rfl (egs_cons eg_name (egs_cons eg_name egs_nil)), et_nil, ev_var rfl⟩
  · unfold lateW
    rw [List.map_map, List.map_map]
    rfl
end Mine

set_option Elab.async false
set_option linter.all false
set_option maxRecDepth 100000
set_option maxHeartbeats 4000000
namespace Mine
open PySem PySem.Spec PyProof.Rows L2 DL

local macro_rules | `(tactic| walk_at "e") => `(tactic| first
  | with_reducible exact ev_int
  | with_reducible exact ev_bl
  | with_reducible exact ev_str
  | with_reducible exact ev_non
  | ((with_reducible apply ev_var); rfl)
  | with_reducible exact ea_nil
  | with_reducible exact et_nil
  | with_reducible exact eo_no
  | with_reducible exact rv_addI
  | with_reducible exact rv_subI
  | with_reducible exact rv_ltI
  | with_reducible exact rv_leI
  | with_reducible exact rv_gtI
  | with_reducible exact rv_geI
  | with_reducible exact rv_eqI
  | with_reducible exact rv_neI
  | with_reducible exact rv_isB
  | with_reducible exact rv_notB
  | ((with_reducible apply rv_modI); first | assumption | omega | skip)
  | ((with_reducible apply rv_divI); first | assumption | (constructor <;> omega) | skip)
  | with_reducible exact ru_I
  | with_reducible exact rc_abs
  | with_reducible exact rc_int
  | with_reducible exact rs_tup
  | with_reducible exact Tru.b _
  | with_reducible exact Tru.n
  | with_reducible exact DL.Seq.t _
  | with_reducible exact DL.Seq.l (Its.d _)
  | with_reducible exact Its.d _
  | with_reducible exact Sees.d _
  | ((with_reducible apply DL.Seq.l); (with_reducible apply DL.Its.p); assumption)
  | ((with_reducible apply DL.Its.p); assumption)
  | (with_reducible apply ev_op) <;> walk_at "e"
  | (with_reducible apply ev_un) <;> walk_at "e"
  | (with_reducible apply ea_cons) <;> walk_at "e"
  | (with_reducible apply ev_cb) <;> walk_at "e"
  | (with_reducible apply et_test) <;> walk_at "e"
  | (with_reducible apply et_not) <;> walk_at "e"
  | (with_reducible apply et_tr) <;> walk_at "e"
  | (with_reducible apply ev_notT) <;> walk_at "e"
  | (with_reducible apply eo_some) <;> walk_at "e"
  | ((with_reducible apply rv_ix) <;> first | ((with_reducible show atW _ _ = some _); rfl) | walk_at "e")
  | with_reducible exact rc_isint
  | with_reducible exact rc_isbool
  | with_reducible exact rc_isstr
  | with_reducible exact rc_istuple
  | with_reducible exact rc_islist
  | (with_reducible apply rc_len) <;> walk_at "e"
  | (with_reducible apply ev_leLe) <;> walk_at "e"
  | (with_reducible apply ev_fld) <;> walk_at "e"
  | (with_reducible apply ev_sl) <;> walk_at "e"
  | with_reducible exact ev_con T.v_BLANK
  | with_reducible exact ev_raw
  | with_reducible assumption
  | with_reducible rfl
  | skip)

/-! ### what is read -/
def lateAt (late : List (Int × List Int)) (i : Int) : List (Int × List Int) := late.filter fun q => decide (q.1 = i)
def getT (sure : List (List Int)) (late : List (Int × List Int)) (i : Int) : List Int := match (lateAt late i).getLast? with
  | some q => q.2
  | none => sure.getD i.toNat []
def phGet (a : Ad) : DL.Spec := fun ws μ O => ∃ p s l sure late pw x, ws = [.p p, .d x] ∧ TilesAt a.C_Tiles μ p s l sure late pw ∧
  (pw = false → O (.exc (.ref a.C_PowerOff) μ)) ∧ (pw = true → isNum x 0 ((sure.length : Int) - 1) = false → O (.exc (.ref a.C_InvalidArgument) μ)) ∧
  (∀ i, pw = true → x = .int i → 0 ≤ i → i < (sure.length : Int) → O (.ret (.d (tileD (getT sure late i))) μ))
theorem isNum_int {i lo hi : Int} (h : isNum (.int i) lo hi = true) : lo ≤ i ∧ i ≤ hi := by
  simpa [isNum] using h
theorem isNum_shape {x : PyData} {lo hi : Int} (h : isNum x lo hi = true) : ∃ i, x = .int i ∧ lo ≤ i ∧ i ≤ hi := by
  cases x with
  | int i => exact ⟨i, rfl, isNum_int h⟩
  | _ => cases h
theorem ok_Tiles_get {P : Program} {w : World} {K : PySem.W.Frag} {mg : Str → Option Value} {base : Heap} {a : Ad} (T : Txt K mg a) : FnOk P w K mg base (L2.CX P w) 3 a.f_Tiles_get a.d_Tiles_get ["self", "place"] (spOf K 2 (phGet a)) := by
  refine def_ok T.f_Tiles_get sc_Tiles_get rfl fun cdv A outer s H E hr => ?_
  have hu := hr.units
  refine ⟨_, (pss_cons (ps_expr (by exact (pe_methU (by exact (pv 0)) T.c_Tiles T.m_Tiles__checked (ok_Tiles__checked T) (hr.mono (by decide)) T.b_Tiles__checked (takes_of rfl rfl rfl rfl) (by exact (pa_cons (pv 1) pa_nil)))))
    (pss_cons (ps_setLc (i := 2) rfl sc_Tiles_get.nd rfl rfl (sw_true rfl rfl rfl (by decide +kernel)) (own := [("other", 3), ("data", 4)]) (g := (gTup K 2 (gCons (gName 3) (gCons (gName 4) gNil)))) (tt := (tTest (tOp (rEqA K) (tVar 3) (tVar 1)))) (te := (tVar 4)) (by exact (pi_seqU (pe_fld (pv 0) rfl))) (blkOk_by (own := [("other", 3), ("data", 4)]) (N := ["self", "place", "rows", "other", "data"]) (sc := defScope s_Tiles_get) (by decide +kernel)) (fun _ _ _ _ _ => by exact (pg_tup rfl (pgs_cons (pg_name (i := 3) sc_Tiles_get.nd rfl (Or.inl rfl)) (pgs_cons (pg_name (i := 4) sc_Tiles_get.nd rfl (Or.inl rfl)) pgs_nil)))) (fun _ _ _ _ _ => by exact (pts_one (pt_cmpR (op_eqU hu) (pv 3) (pv 1) (nomark _)))) (fun _ _ _ _ _ => by exact (pv 4)))
    (pss_one (ps_ret (pe_ifExp (pt_tr (pv 2)) (pe_ix ix_seq (pv 2) (pe_un un_neg pe_int) (fun _ _ => rfl)) (pe_ix ix_seq (pe_fld (pv 0) rfl) (pv 1) (fun _ _ => rfl))))))), ?_⟩
  try dsimp only [cxOf_K]
  rintro ws μ O ⟨p, s, l, sure, late, pw, x, rfl, t, o1, o2, o3⟩ _ _
  change St K _ _ [some _, some _, none, none, none] _ _
  cases pw with
  | false => exact st_seq (st_dropX (evx_meth (ev_var rfl) t.ob (tf_no _ _ _ (by decide +kernel) (by decide +kernel) (by decide +kernel)) (ea_cons (ev_var rfl) ea_nil) rfl ⟨p, s, l, sure, late, false, x, rfl, t, fun _ => rfl, (fun q => nomatch q), (fun q => nomatch q)⟩) (.inl (o1 rfl)))
  | true =>
    cases hx : isNum x 0 ((sure.length : Int) - 1) with
    | false => exact st_seq (st_dropX (evx_meth (ev_var rfl) t.ob (tf_no _ _ _ (by decide +kernel) (by decide +kernel) (by decide +kernel)) (ea_cons (ev_var rfl) ea_nil) rfl ⟨p, s, l, sure, late, true, x, rfl, t, (fun q => nomatch q), fun _ _ => rfl, (fun _ q => by rw [hx] at q; cases q)⟩) (.inl (o2 rfl hx)))
    | true =>
      obtain ⟨i, rfl, h0, h1⟩ := isNum_shape hx
      have h1' : i < (sure.length : Int) := by omega
      refine st_seq (st_drop (ev_meth (ev_var rfl) t.ob (tf_no _ _ _ (by decide +kernel) (by decide +kernel) (by decide +kernel)) (ea_cons (ev_var rfl) ea_nil) rfl ⟨p, s, l, sure, late, true, _, rfl, t, (fun q => nomatch q), (fun _ q => by rw [hx] at q; cases q), fun _ _ => rfl⟩) ?_)
      show St _ _ _ _ _ _
      -- rows
      have hrows : Ev K (tLc (iSeq K (tFld K (tVar 0) "_late")) (gTup K 2 (gCons (gName 3) (gCons (gName 4) gNil))) (tTest (tOp (rEqA K) (tVar 3) (tVar 1))) (tVar 4) [3, 4]) [some (.p p), some (.i i), none, none, none] μ (.d (.list ((lateAt late i).map fun q => tileD q.2))) μ := by
        refine ev_is (ev_lcF (f := fun w => match w with | .d (.tuple [_, y]) => y | _ => .none) (p := fun w => match w with | .d (.tuple [.int j, _]) => decide (j = i) | _ => false) (ei_seqL (ev_fld (ev_var rfl) t.ob T.c_Tiles T.n_Tiles__late (tf_late _ _ _)) (.p t.hl)) (mg_tup (mgs_cons mg_name (mgs_cons mg_name mgs_nil))) (tg_tup (tgs_cons mg_name (mgs_cons mg_name mgs_nil) (tg_name (by decide)) (tgs_cons mg_name mgs_nil (tg_name (by decide)) tgs_nil))) ?_ t.hl ?_) ?_
        · simp [lateW]
          exact Nat.le_trans t.zl (by decide)
        · intro j w hw
          unfold lateW at hw
          rw [List.getElem?_map, List.getElem?_map] at hw
          cases hz : late[j]? with
          | none => rw [hz] at hw; cases hw
          | some q =>
            rw [hz] at hw
            cases hw
            exact ⟨_, eg_tup rfl (egs_cons eg_name (egs_cons eg_name egs_nil)), et_test (ev_op (ev_var rfl) (ev_var rfl) rv_eqI), fun _ => ev_var rfl⟩
        · unfold lateW lateAt
          congr 2
          clear t o1 o2 o3 hx
          induction late with
          | nil => rfl
          | cons q r ih =>
            rw [List.map_cons, List.map_cons, List.filter_cons, List.filter_cons]
            show List.map _ (if (decide (q.1 = i)) = true then _ else _) = _
            by_cases c : q.1 = i
            · rw [if_pos (decide_eq_true c), if_pos (decide_eq_true c), List.map_cons, List.map_cons, ih]
              rfl
            · rw [if_neg (by simpa using c), if_neg (by simpa using c), ih]
      refine st_seq (st_set hrows ?_)
      show St _ _ _ _ _ _
      dsimp only [List.set_cons_zero, List.set_cons_succ]
      refine st_ret (w := .d (tileD (getT sure late i))) (μ1 := μ) ?_ (.inl (o3 i rfl rfl h0 h1'))
      refine ev_if (a := !(((lateAt late i).map fun q => tileD q.2).map W.d).isEmpty) (et_tr (ev_var rfl) (.q (.l (.d _)))) (fun h => ?_) fun h => ?_
      · cases hq : (lateAt late i).getLast? with
        | none =>
          rw [List.getLast?_eq_none_iff.mp hq] at h
          cases h
        | some q =>
          refine ev_is (y := .d (tileD (getT sure late i))) (ev_op (z := .d (tileD q.2)) (ev_var rfl) (ev_un ev_int ru_I) (rv_ix (.l (.d _)) (atW_last ?_))) ?_
          · rw [List.getLast?_map, List.getLast?_map, hq]
            rfl
          · unfold getT
            rw [hq]
      · have hq : (lateAt late i) = [] := by simpa using h
        have hs : i.toNat < sure.length := by omega
        refine ev_is (ev_op (z := .d (tileD (sure.getD i.toNat []))) (ev_fld (ev_var rfl) t.ob T.c_Tiles T.n_Tiles__sure (tf_sure _ _ _)) (ev_var rfl) (rv_ix (.l (.p t.hs)) (atW_nat h0 ?_))) ?_
        · unfold sureW
          rw [List.getElem?_map, List.getElem?_map, List.getElem?_eq_getElem hs]
          simp [hs]
        · unfold getT
          rw [hq]
          rfl
/-! ### what is written -/
def lenD (y : PyData) : Int := match y with
  | .tuple ys => (ys.length : Nat)
  | _ => 0
def putM (l : Nat) (late : List (Int × List Int)) (q : Int × List Int) (μ : Mu) : Mu := μ.set l (.lst (lateW (late ++ [q])))
def phPut (a : Ad) : DL.Spec := fun ws μ O => ∃ p s l sure late pw x y, ws = [.p p, .d x, .d y] ∧ TilesAt a.C_Tiles μ p s l sure late pw ∧ (∀ ys, y = .tuple ys → ys.length ≤ 1000) ∧
  (pw = false → O (.exc (.ref a.C_PowerOff) μ)) ∧ (pw = true → isNum x 0 ((sure.length : Int) - 1) = false → O (.exc (.ref a.C_InvalidArgument) μ)) ∧
  (pw = true → isNum x 0 ((sure.length : Int) - 1) = true → (isBytes y = false ∨ ¬ lenD y = 48) → O (.exc (.ref a.C_InvalidArgument) μ)) ∧
  (∀ i t, pw = true → x = .int i → 0 ≤ i → i < (sure.length : Int) → y = tileD t → isBytes y = true → lenD y = 48 → O (.ret (.d .none) (putM l late (i, t) μ)))
theorem ok_Tiles_put {P : Program} {w : World} {K : PySem.W.Frag} {mg : Str → Option Value} {base : Heap} {a : Ad} (T : Txt K mg a) : FnOk P w K mg base (L2.CX P w) 3 a.f_Tiles_put a.d_Tiles_put ["self", "place", "data"] (spOf K 3 (phPut a)) := by
  refine def_ok T.f_Tiles_put sc_Tiles_put rfl fun cdv A outer s H E hr => ?_
  have hu := hr.units
  refine ⟨_, (pss_cons (ps_expr (by exact (pe_methU (by exact (pv 0)) T.c_Tiles T.m_Tiles__checked (ok_Tiles__checked T) (hr.mono (by decide)) T.b_Tiles__checked (takes_of rfl rfl rfl rfl) (by exact (pa_cons (pv 1) pa_nil)))))
    (pss_cons (ps_if (PW.pt (pw_or (pt_not (pt_tr (by exact (pe_callU (ok_are_bytes T) (hr.mono (by decide)) rfl T.g_are_bytes T.f_are_bytes.kp T.b_are_bytes (takes_of rfl rfl rfl rfl) (by exact (pa_cons (pv 2) pa_nil)))))) (pw_or1 (pt_cmpR (op_neU hu) (pe_callB call_lenU rfl T.z_len (by decide +kernel) (pa_cons (pv 2) pa_nil)) (pe_glob rfl T.g_SIZE T.r_SIZE) (nomark _))))) (pss_one (ps_raiseU rfl (takes_of rfl rfl rfl rfl) PySem.F.excBase_ValueError T.x_InvalidArgument T.g_InvalidArgument T.k_InvalidArgument (raises_own T.sb_InvalidArgument T.ty_InvalidArgument) rfl)) pss_nil)
    (pss_one (ps_expr (pe_bm PySem.F.plainAttrs_list PySem.F.slot_list_append PySem.F.type_list_append mt_append (pe_fld (pv 0) rfl) (pa_cons (pe_tup (pa_cons (pv 1) (pa_cons (pv 2) pa_nil))) pa_nil)))))), ?_⟩
  try dsimp only [cxOf_K]
  rintro ws μ O ⟨p, s, l, sure, late, pw, x, y, rfl, t, hy, o1, o2, o3, o4⟩ _ _
  change St K _ _ [some _, some _, some _] _ _
  cases pw with
  | false => exact st_seq (st_dropX (evx_meth (ev_var rfl) t.ob (tf_no _ _ _ (by decide +kernel) (by decide +kernel) (by decide +kernel)) (ea_cons (ev_var rfl) ea_nil) rfl ⟨p, s, l, sure, late, false, x, rfl, t, fun _ => rfl, (fun q => nomatch q), (fun q => nomatch q)⟩) (.inl (o1 rfl)))
  | true =>
    cases hx : isNum x 0 ((sure.length : Int) - 1) with
    | false => exact st_seq (st_dropX (evx_meth (ev_var rfl) t.ob (tf_no _ _ _ (by decide +kernel) (by decide +kernel) (by decide +kernel)) (ea_cons (ev_var rfl) ea_nil) rfl ⟨p, s, l, sure, late, true, x, rfl, t, (fun q => nomatch q), fun _ _ => rfl, (fun _ q => by rw [hx] at q; cases q)⟩) (.inl (o2 rfl hx)))
    | true =>
      refine st_seq (st_drop (ev_meth (ev_var rfl) t.ob (tf_no _ _ _ (by decide +kernel) (by decide +kernel) (by decide +kernel)) (ea_cons (ev_var rfl) ea_nil) rfl ⟨p, s, l, sure, late, true, _, rfl, t, (fun q => nomatch q), (fun _ q => by rw [hx] at q; cases q), fun _ _ => rfl⟩) ?_)
      show St _ _ _ _ _ _
      have hcall : Ev K (tCallS (spOf K 1 phBytes) (WE (fun cls d _ H => E cls d H)) (tCons (tVar 2) tNil)) [some (.p p), some (.d x), some (.d y)] μ (.b (isBytes y)) μ := ev_call (ws := [.d y]) (μ1 := μ) (ea_cons (ev_var rfl) ea_nil) rfl ⟨y, rfl, hy, rfl⟩
      refine st_seq (st_if0 (b := !isBytes y || !decide (lenD y = 48)) ?_ (fun h => ?_) fun h => ?_)
      · refine et_or0 (et_not (et_tr hcall (.b _))) fun hb => ?_
        have hb' : isBytes y = true := by simpa using hb
        cases y with
        | tuple ys =>
          refine et_is (et_test (ev_op (ev_cb (ea_cons (ev_var rfl) ea_nil) (rc_len (.t ys))) ev_int rv_neI)) ?_
          rw [List.length_map]
          rfl
        | _ => cases hb'
      · refine st_raise (.inl (o3 rfl hx ?_))
        cases hb : isBytes y with
        | false => exact .inl rfl
        | true =>
          rw [hb] at h
          exact .inr (by simpa using h)
      · have hb : isBytes y = true ∧ lenD y = 48 := by simpa using h
        obtain ⟨i, rfl, h0, h1⟩ := isNum_shape hx
        have h1' : i < (sure.length : Int) := by omega
        obtain ⟨tt, rfl⟩ : ∃ tt, y = tileD tt := by
          cases y with
          | tuple ys =>
            have key : ∀ ys : List PyData, (ys.all fun y => isNum y 0 255) = true → ∃ tt : List Int, ys = tt.map .int := by
              intro ys
              induction ys with
              | nil => intro _; exact ⟨[], rfl⟩
              | cons z zs ih =>
                intro q
                rw [List.all_cons, Bool.and_eq_true] at q
                obtain ⟨j, rfl, _, _⟩ := isNum_shape q.1
                obtain ⟨tt, rfl⟩ := ih q.2
                exact ⟨j :: tt, rfl⟩
            obtain ⟨tt, e⟩ := key ys hb.1
            exact ⟨tt, by rw [e]; rfl⟩
          | _ => cases hb.1
        refine st_next ?_
        show St _ _ _ _ _ _
        have hz : late.length ≤ 1000 := t.zl
        have e := o4 i tt rfl rfl h0 h1' rfl hb.1 hb.2
        have e2 : putM l late (i, tt) μ = μ.set l (.lst (lateW late ++ [.d (pairD (i, tt))])) := by
          unfold putM lateW
          rw [List.map_append, List.map_append]
          rfl
        rw [e2] at e
        refine st_drop (w := .d .none) (μ1 := μ.set l (.lst (lateW late ++ [.d (pairD (i, tt))]))) ?_ (.inl e)
        refine ev_bm (tyv_cell t.hl) (ev_fld (ev_var rfl) t.ob T.c_Tiles T.n_Tiles__late (tf_late _ _ _)) (ea_cons (ev_tup (xs := [.int i, tileD tt]) (ea_cons (ev_var rfl) (ea_cons (ev_var rfl) ea_nil)) rfl (by show 2 ≤ sizeLine; decide)) ea_nil) (rm_append t.hl ?_)
        simp [lateW]
        exact Nat.lt_of_le_of_lt hz (by decide)
end Mine

set_option Elab.async false
set_option linter.all false
set_option maxRecDepth 100000
set_option maxHeartbeats 4000000
namespace Mine
open PySem PySem.Spec PyProof.Rows L2 DL

local macro_rules | `(tactic| walk_at "e") => `(tactic| first
  | with_reducible exact ev_int
  | with_reducible exact ev_bl
  | with_reducible exact ev_str
  | with_reducible exact ev_non
  | ((with_reducible apply ev_var); rfl)
  | with_reducible exact ea_nil
  | with_reducible exact et_nil
  | with_reducible exact eo_no
  | with_reducible exact rv_addI
  | with_reducible exact rv_subI
  | with_reducible exact rv_ltI
  | with_reducible exact rv_leI
  | with_reducible exact rv_gtI
  | with_reducible exact rv_geI
  | with_reducible exact rv_eqI
  | with_reducible exact rv_neI
  | with_reducible exact rv_isB
  | with_reducible exact rv_notB
  | ((with_reducible apply rv_modI); first | assumption | omega | skip)
  | ((with_reducible apply rv_divI); first | assumption | (constructor <;> omega) | skip)
  | with_reducible exact ru_I
  | with_reducible exact rc_abs
  | with_reducible exact rc_int
  | with_reducible exact rs_tup
  | with_reducible exact Tru.b _
  | with_reducible exact Tru.n
  | with_reducible exact DL.Seq.t _
  | with_reducible exact DL.Seq.l (Its.d _)
  | with_reducible exact Its.d _
  | with_reducible exact Sees.d _
  | ((with_reducible apply DL.Seq.l); (with_reducible apply DL.Its.p); assumption)
  | ((with_reducible apply DL.Its.p); assumption)
  | (with_reducible apply ev_op) <;> walk_at "e"
  | (with_reducible apply ev_un) <;> walk_at "e"
  | (with_reducible apply ea_cons) <;> walk_at "e"
  | (with_reducible apply ev_cb) <;> walk_at "e"
  | (with_reducible apply et_test) <;> walk_at "e"
  | (with_reducible apply et_not) <;> walk_at "e"
  | (with_reducible apply et_tr) <;> walk_at "e"
  | (with_reducible apply ev_notT) <;> walk_at "e"
  | (with_reducible apply eo_some) <;> walk_at "e"
  | ((with_reducible apply rv_ix) <;> first | ((with_reducible show atW _ _ = some _); rfl) | walk_at "e")
  | with_reducible exact rc_isint
  | with_reducible exact rc_isbool
  | with_reducible exact rc_isstr
  | with_reducible exact rc_istuple
  | with_reducible exact rc_islist
  | (with_reducible apply rc_len) <;> walk_at "e"
  | (with_reducible apply ev_leLe) <;> walk_at "e"
  | (with_reducible apply ev_fld) <;> walk_at "e"
  | (with_reducible apply ev_sl) <;> walk_at "e"
  | with_reducible exact ev_con T.v_BLANK
  | with_reducible exact ev_raw
  | with_reducible assumption
  | with_reducible rfl
  | skip)

/-! ### all is sure -/
def applyL (sure : List (List Int)) (late : List (Int × List Int)) : List (List Int) := late.foldl (fun s q => s.set q.1.toNat q.2) sure
def In (n : Nat) (late : List (Int × List Int)) : Prop := ∀ q, q ∈ late → 0 ≤ q.1 ∧ q.1 < (n : Int)
theorem applyL_len (sure : List (List Int)) (late : List (Int × List Int)) : (applyL sure late).length = sure.length := by
  unfold applyL
  induction late generalizing sure with
  | nil => rfl
  | cons q r ih => rw [List.foldl_cons, ih, List.length_set]
theorem applyL_more {sure : List (List Int)} {late : List (Int × List Int)} {i : Nat} {q : Int × List Int} (h : late[i]? = some q) : applyL sure (late.take (i + 1)) = (applyL sure (late.take i)).set q.1.toNat q.2 := by
  unfold applyL
  rw [take_more h, List.foldl_append]
  rfl
theorem sureW_set (sure : List (List Int)) (j : Nat) (t : List Int) : (sureW sure).set j (.d (tileD t)) = sureW (sure.set j t) := by
  unfold sureW
  rw [List.map_set, List.map_set]
theorem sureW_len (sure : List (List Int)) : (sureW sure).length = sure.length := by simp [sureW]
theorem lateW_len (late : List (Int × List Int)) : (lateW late).length = late.length := by simp [lateW]
theorem lateW_get {late : List (Int × List Int)} {i : Nat} {w : W} (h : (lateW late)[i]? = some w) : ∃ q, late[i]? = some q ∧ w = .d (pairD q) := by
  unfold lateW at h
  rw [List.getElem?_map, List.getElem?_map] at h
  cases hz : late[i]? with
  | none => rw [hz] at h; cases h
  | some q =>
    rw [hz] at h
    cases h
    exact ⟨q, rfl, rfl⟩
def settleM (C : Addr) (p s l : Nat) (sure : List (List Int)) (late : List (Int × List Int)) (μ : Mu) : Mu :=
  let m1 := μ.set s (Cell.lst (sureW (applyL sure late)))
  (m1 ++ [Cell.lst []]).set p (Cell.ins C (tf s m1.length true))
def phSettle (a : Ad) : DL.Spec := fun ws μ O => ∃ p s l sure late pw, ws = [.p p] ∧ TilesAt a.C_Tiles μ p s l sure late pw ∧ In sure.length late ∧
  (pw = false → O (.exc (.ref a.C_PowerOff) μ)) ∧ (pw = true → O (.ret (.i (late.length : Nat)) (settleM a.C_Tiles p s l sure late μ)))
theorem ok_Tiles_settle {P : Program} {w : World} {K : PySem.W.Frag} {mg : Str → Option Value} {base : Heap} {a : Ad} (T : Txt K mg a) : FnOk P w K mg base (L2.CX P w) 1 a.f_Tiles_settle a.d_Tiles_settle ["self"] (spOf K 1 (phSettle a)) := by
  refine def_ok T.f_Tiles_settle sc_Tiles_settle rfl fun cdv A outer s H E hr => ?_
  have hu := hr.units
  refine ⟨_, (pss_cons (ps_if (pt_not (pt_tr (pe_fld (pv 0) rfl))) (pss_one (ps_raiseU rfl (takes_of rfl rfl rfl rfl) PySem.F.excBase_ValueError T.x_PowerOff T.g_PowerOff T.k_PowerOff (raises_own T.sb_PowerOff T.ty_PowerOff) rfl)) pss_nil)
    (pss_cons (ps_set (i := 1) sc_Tiles_settle.nd rfl (Or.inl rfl) (pe_callB call_lenU rfl T.z_len (by decide +kernel) (pa_cons (pe_fld (pv 0) rfl) pa_nil)))
    (pss_cons (ps_for (passes_of rfl) rfl (pi_seqU (pe_fld (pv 0) rfl)) (pg_tup rfl (pgs_cons (pg_name (i := 2) sc_Tiles_settle.nd rfl (Or.inl rfl)) (pgs_cons (pg_name (i := 3) sc_Tiles_settle.nd rfl (Or.inl rfl)) pgs_nil))) (pss_one (ps_asg (pv 3) (pg_sub (pe_fld (pv 0) rfl) (pv 2) set_list))))
    (pss_cons (ps_fld (pv 0) (pe_lst pa_nil) rfl)
    (pss_one (ps_ret (pv 1))))))), ?_⟩
  try dsimp only [cxOf_K]
  rintro ws μ O ⟨p, s, l, sure, late, pw, rfl, t, hin, o1, o2⟩ _ _
  change St K _ _ [some _, none, none, none] _ _
  refine st_seq (st_if0 (b := !pw) (et_not (et_tr (ev_fld (ev_var rfl) t.ob T.c_Tiles T.n_Tiles__power (tf_power _ _ _)) (.b _))) (fun h => ?_) fun h => ?_)
  · exact st_raise (.inl (o1 (by simpa using h)))
  · have hp : pw = true := by simpa using h
    subst hp
    refine st_next ?_
    show St _ _ _ _ _ _
    refine st_seq (st_set (w := .i (late.length : Nat)) (μ1 := μ) (ev_is (ev_cb (ea_cons (ev_fld (ev_var rfl) t.ob T.c_Tiles T.n_Tiles__late (tf_late _ _ _)) ea_nil) (rc_len (.l (.p t.hl)))) (by rw [lateW_len])) ?_)
    show St _ _ _ _ _ _
    dsimp only [List.set_cons_zero, List.set_cons_succ]
    have nsp : s ≠ p := fun e => by
      have z := t.hs
      rw [e, t.ob] at z
      cases z
    refine st_seq (st_for (ei_seqL (ev_fld (ev_var rfl) t.ob T.c_Tiles T.n_Tiles__late (tf_late _ _ _)) (.p t.hl)) (fun i δ μi => ∃ x y, δ = [some (.p p), some (.i (late.length : Nat)), x, y] ∧ μi = μ.set s (.lst (sureW (applyL sure (late.take i))))) ⟨none, none, rfl, ?_⟩ ?_ ?_ ?_)
    · rw [List.take_zero]
      exact (set_same t.hs).symm
    · rintro i δ μi ⟨x, y, rfl, rfl⟩
      exact gs t.ne t.hl
    · rintro i w δi μi hw ⟨x, y, rfl, rfl⟩
      obtain ⟨q, hq, rfl⟩ := lateW_get hw
      refine ⟨_, _, eg_tup rfl (egs_cons eg_name (egs_cons eg_name egs_nil)), ?_⟩
      dsimp only [List.set_cons_zero, List.set_cons_succ]
      have hr := hin q (List.mem_of_getElem? hq)
      refine st_asg (ev_var rfl) (eg_subL (n := s) (i := q.1) (xs := sureW (applyL sure (late.take i))) (ev_fld (ev_var rfl) (gs nsp t.ob) T.c_Tiles T.n_Tiles__sure (tf_sure _ _ _)) (ev_var rfl) (gS t.hs) (ixN_nat hr.1 ?_)) ?_
      · rw [sureW_len, applyL_len]
        exact hr.2
      · refine ⟨_, _, rfl, ?_⟩
        rw [List.set_set, sureW_set, applyL_more hq]
    · rintro δi μi ⟨x, y, rfl, rfl⟩
      rw [lateW_len, List.take_length]
      show St _ _ _ _ _ _
      have e1 := ga (ys := [.lst []]) (gs (d := .lst (sureW (applyL sure late))) nsp t.ob)
      refine st_seq (st_fld (ev_lstP ea_nil (by decide)) (ev_var rfl) e1 T.c_Tiles T.n_Tiles__late (by show 3 < 1000; decide) ?_)
      show St _ _ _ _ _ _
      rw [tf_pl]
      exact st_ret (ev_var rfl) (.inl (o2 rfl))
/-! ### the power goes -/
def failT (s : List (List Int)) (q : Int × Int × List Int) : List (List Int) := s.set q.2.1.toNat (q.2.2.take q.1.toNat ++ (s.getD q.2.1.toNat []).drop q.1.toNat)
def failL (sure : List (List Int)) (ks : List Int) (late : List (Int × List Int)) : List (List Int) := (ks.zip late).foldl failT sure
theorem failT_len (s : List (List Int)) (q : Int × Int × List Int) : (failT s q).length = s.length := by unfold failT; rw [List.length_set]
theorem failF_len (s : List (List Int)) (l : List (Int × Int × List Int)) : (l.foldl failT s).length = s.length := by
  induction l generalizing s with
  | nil => rfl
  | cons q r ih => rw [List.foldl_cons, ih, failT_len]
theorem failF_more {s : List (List Int)} {l : List (Int × Int × List Int)} {i : Nat} {q : Int × Int × List Int} (h : l[i]? = some q) : (l.take (i + 1)).foldl failT s = failT ((l.take i).foldl failT s) q := by
  rw [take_more h, List.foldl_append]
  rfl
def failM (C : Addr) (p s l : Nat) (sure : List (List Int)) (ks : List Int) (late : List (Int × List Int)) (μ : Mu) : Mu :=
  let m1 := μ.set s (Cell.lst (sureW (failL sure ks late)))
  ((m1 ++ [Cell.lst []]).set p (Cell.ins C (tf s m1.length true))).set p (Cell.ins C (tf s m1.length false))
def phFail (a : Ad) : DL.Spec := fun ws μ O => ∃ p s l sure late pw w cs, ws = [.p p, w] ∧ TilesAt a.C_Tiles μ p s l sure late pw ∧ DL.Seq μ w (cs.map .d) ∧ In sure.length late ∧ cs.length ≤ 10000 ∧ (∀ q, q ∈ sure → q.length = 48) ∧ (∀ q, q ∈ late → q.2.length = 48) ∧
  (pw = true → cs.length = late.length → ∃ ks : List Int, cs = ks.map .int ∧ ∀ k, k ∈ ks → 0 ≤ k ∧ k ≤ 48) ∧
  (pw = false → O (.exc (.ref a.C_PowerOff) μ)) ∧ (pw = true → ¬ cs.length = late.length → O (.exc (.ref a.C_InvalidArgument) μ)) ∧
  (∀ ks : List Int, pw = true → cs = ks.map .int → (∀ k, k ∈ ks → 0 ≤ k ∧ k ≤ 48) → cs.length = late.length → O (.ret (.d .none) (failM a.C_Tiles p s l sure ks late μ)))
theorem take_map {α β : Type} (f : α → β) (xs : List α) (n : Nat) : (xs.map f).take n = (xs.take n).map f := (List.map_take).symm
theorem fail_tile (q : Int × Int × List Int) (b : List Int) : PyData.tuple ((q.2.2.map PyData.int).take q.1.toNat ++ (b.map PyData.int).drop q.1.toNat) = tileD (q.2.2.take q.1.toNat ++ b.drop q.1.toNat) := by
  unfold tileD
  rw [List.map_append, List.map_take, List.map_drop]
theorem mem_set' {α : Type} {l : List α} {n : Nat} {x y : α} (h : y ∈ l.set n x) : y ∈ l ∨ y = x := by
  rcases List.mem_or_eq_of_mem_set h with h | h
  · exact .inl h
  · exact .inr h
theorem failF_48 {l : List (Int × Int × List Int)} : ∀ {s : List (List Int)}, (∀ q, q ∈ s → q.length = 48) → (∀ q, q ∈ l → q.2.2.length = 48 ∧ q.1 ≤ 48 ∧ q.2.1.toNat < s.length) → ∀ q, q ∈ l.foldl failT s → q.length = 48 := by
  induction l with
  | nil => intro s h1 _; exact h1
  | cons x r ih =>
    intro s h1 h2
    rw [List.foldl_cons]
    obtain ⟨a1, a2, a3⟩ := h2 x List.mem_cons_self
    refine ih (fun q hq => ?_) fun q hq => ?_
    · unfold failT at hq
      rcases mem_set' hq with hq | rfl
      · exact h1 q hq
      · have e : (s.getD x.2.1.toNat []).length = 48 := by
          rw [List.getD_eq_getElem?_getD, List.getElem?_eq_getElem a3]
          exact h1 _ (List.getElem_mem a3)
        rw [List.length_append, List.length_take, List.length_drop, e, a1]
        omega
    · rw [failT_len]
      exact h2 q (List.mem_cons_of_mem _ hq)
theorem ok_Tiles_fail {P : Program} {w : World} {K : PySem.W.Frag} {mg : Str → Option Value} {base : Heap} {a : Ad} (T : Txt K mg a) : FnOk P w K mg base (L2.CX P w) 2 a.f_Tiles_fail a.d_Tiles_fail ["self", "came"] (spOf K 2 (phFail a)) := by
  refine def_ok T.f_Tiles_fail sc_Tiles_fail rfl fun cdv A outer s H E hr => ?_
  have hu := hr.units
  refine ⟨_, (pss_cons (ps_if (pt_not (pt_tr (pe_fld (pv 0) rfl))) (pss_one (ps_raiseU rfl (takes_of rfl rfl rfl rfl) PySem.F.excBase_ValueError T.x_PowerOff T.g_PowerOff T.k_PowerOff (raises_own T.sb_PowerOff T.ty_PowerOff) rfl)) pss_nil)
    (pss_cons (ps_set (i := 2) sc_Tiles_fail.nd rfl (Or.inl rfl) (pe_callTy call_lstU rfl T.z_list (by decide +kernel) (pa_cons (pv 1) pa_nil)))
    (pss_cons (ps_if (PW.pt (pw_or (pt_cmpR (op_neU hu) (pe_callB call_lenU rfl T.z_len (by decide +kernel) (pa_cons (pv 2) pa_nil)) (pe_callB call_lenU rfl T.z_len (by decide +kernel) (pa_cons (pe_fld (pv 0) rfl) pa_nil)) (nomark _)) (pw_or1 (pt_tr (pe_lc (own := [("one", 3)]) (g := (gName 3)) (tt := (tNot (tTr K (tCallS (spOf K 3 phNum) (WE (fun _ _ _ _ => False)) (tCons (tVar 3) (tCons (tC (.int 0)) (tCons (tC (.int 48)) tNil))))))) (te := (tVar 3)) rfl sc_Tiles_fail.nd (by exact (pi_seqU (pv 2))) (blkOk_by (own := [("one", 3)]) (N := ["self", "came", "rows", "one", "place", "data"]) (sc := defScope s_Tiles_fail) (by decide +kernel)) (fun _ _ _ _ _ => by exact (pg_name (i := 3) sc_Tiles_fail.nd rfl (Or.inl rfl))) (fun _ _ _ _ _ => by exact (pts_one (pt_not (pt_tr (by exact (pe_callU (ok_is_number_of T) (hr.mono (by decide)) rfl T.g_is_number_of T.f_is_number_of.kp T.b_is_number_of takes0 (by exact (pa_cons (pv 3) (pa_cons pe_int (pa_cons (pe_glob rfl T.g_SIZE T.r_SIZE) pa_nil)))))))))) (fun _ _ _ _ _ => by exact (pv 3))))))) (pss_one (ps_raiseU rfl (takes_of rfl rfl rfl rfl) PySem.F.excBase_ValueError T.x_InvalidArgument T.g_InvalidArgument T.k_InvalidArgument (raises_own T.sb_InvalidArgument T.ty_InvalidArgument) rfl)) pss_nil)
    (pss_cons (ps_for (passes_of rfl) rfl (RZ.pi_zipA rfl T.z_zip (pa_cons (pv 2) (pa_cons (pe_fld (pv 0) rfl) pa_nil))) (pg_tup rfl (pgs_cons (pg_name (i := 3) sc_Tiles_fail.nd rfl (Or.inl rfl)) (pgs_cons (pg_tup rfl (pgs_cons (pg_name (i := 4) sc_Tiles_fail.nd rfl (Or.inl rfl)) (pgs_cons (pg_name (i := 5) sc_Tiles_fail.nd rfl (Or.inl rfl)) pgs_nil))) pgs_nil))) (pss_one (ps_asg (pe_op op_addU (pe_slice sl_U (pv 5) po_none (po_some (pv 3))) (pe_slice sl_U (pe_ix ix_seq (pe_fld (pv 0) rfl) (pv 4) (fun _ _ => rfl)) (po_some (pv 3)) po_none)) (pg_sub (pe_fld (pv 0) rfl) (pv 4) set_list))))
    (pss_cons (ps_fld (pv 0) (pe_lst pa_nil) rfl)
    (pss_one (ps_fld (pv 0) pe_bl rfl))))))), ?_⟩
  try dsimp only [cxOf_K]
  rintro ws μ O ⟨p, s, l, sure, late, pw, w, cs, rfl, t, hw, hin, hz, hs1, hl1, o0, o1, o2, o3⟩ _ _
  change St K _ _ [some _, some _, none, none, none, none] _ _
  refine st_seq (st_if0 (b := !pw) (et_not (et_tr (ev_fld (ev_var rfl) t.ob T.c_Tiles T.n_Tiles__power (tf_power _ _ _)) (.b _))) (fun h => ?_) fun h => ?_)
  · exact st_raise (.inl (o1 (by simpa using h)))
  · have hp : pw = true := by simpa using h
    subst hp
    refine st_next ?_
    show St _ _ _ _ _ _
    refine st_seq (st_set (w := .d (.list cs)) (μ1 := μ) (ev_cb (ea_cons (ev_var rfl) ea_nil) (rc_lstD hw)) ?_)
    show St _ _ _ _ _ _
    dsimp only [List.set_cons_zero, List.set_cons_succ]
    have hlen : EvT K (tTest (tOp (rNeA K) (tCB (rLenU K) (tCons (tVar 2) tNil)) (tCB (rLenU K) (tCons (tFld K (tVar 0) "_late") tNil)))) [some (.p p), some w, some (.d (.list cs)), none, none, none] μ (!decide ((cs.length : Int) = (late.length : Int))) μ := by
      refine et_is (et_test (ev_op (ev_cb (ea_cons (ev_var rfl) ea_nil) (rc_len (.l (.d _)))) (ev_cb (ea_cons (ev_fld (ev_var rfl) t.ob T.c_Tiles T.n_Tiles__late (tf_late _ _ _)) ea_nil) (rc_len (.l (.p t.hl)))) rv_neI)) ?_
      rw [lateW_len, List.length_map]
    by_cases hc : cs.length = late.length
    · · obtain ⟨ks, rfl, hk⟩ := o0 rfl hc
        refine st_seq (st_ifF (μ1 := μ) ?_ (st_next ?_))
        · refine et_is (et_or0 hlen fun _ => et_tr (ev_lcF (f := fun w => match w with | .d y => y | _ => .none) (p := fun w => match w with | .d y => !isNum y 0 48 | _ => false) (ei_seqL (ev_var rfl) (.d _)) mg_name (tg_name (by decide)) (by rw [List.length_map]; exact Nat.le_trans hz (by decide)) trivial ?_) (.q (.l (.d _)))) ?_
          · intro i w hw
            rw [List.getElem?_map] at hw
            cases hy : (ks.map PyData.int)[i]? with
            | none => rw [hy] at hw; cases hw
            | some y =>
              rw [hy] at hw
              cases hw
              refine ⟨_, eg_name, et_not (et_tr (ev_call (ws := [.d y, .i 0, .i 48]) (by walk_at "e") rfl ⟨y, 0, 48, rfl, rfl⟩) (.b _)), fun _ => ev_var rfl⟩
          · have e : ((ks.map PyData.int).map W.d).filter (fun w => match w with | .d y => !isNum y 0 48 | _ => false) = [] := by
              rw [List.filter_eq_nil_iff]
              intro w hw
              obtain ⟨y, hy, rfl⟩ := List.mem_map.mp hw
              obtain ⟨k, hkk, rfl⟩ := List.mem_map.mp hy
              have := hk k hkk
              simp [isNum, this.1, this.2]
            rw [e, hc]
            simp
        show St _ _ _ _ _ _
        have nsp : s ≠ p := fun e => by
          have z := t.hs
          rw [e, t.ob] at z
          cases z
        have hcl : ks.length = late.length := by simpa using hc
        have hzl : ((ks.map PyData.int).zip (late.map pairD)) = (ks.zip late).map fun q => (PyData.int q.1, pairD q.2) := by
          rw [List.zip_map]
          rfl
        have hall : ∀ q, q ∈ ks.zip late → q.2.2.length = 48 ∧ 0 ≤ q.1 ∧ q.1 ≤ 48 ∧ 0 ≤ q.2.1 ∧ q.2.1 < (sure.length : Int) := fun q hq => by
          have m1 := (List.of_mem_zip hq).1
          have m2 := (List.of_mem_zip hq).2
          exact ⟨hl1 _ m2, (hk _ m1).1, (hk _ m1).2, (hin _ m2).1, (hin _ m2).2⟩
        refine st_seq (st_for (ei_zip (ea_cons (ev_var rfl) (ea_cons (ev_fld (ev_var rfl) t.ob T.c_Tiles T.n_Tiles__late (tf_late _ _ _)) ea_nil)) (.d _) (.p t.hl))
          (fun i δ μi => ∃ x y z, δ = [some (.p p), some w, some (.d (.list (ks.map .int))), x, y, z] ∧ μi = μ.set s (Cell.lst (sureW (((ks.zip late).take i).foldl failT sure)))) ⟨none, none, none, rfl, ?_⟩ ?_ ?_ ?_)
        · rw [List.take_zero]
          exact (set_same t.hs).symm
        · rintro i δ μi ⟨x, y, z, rfl, rfl⟩
          exact ⟨trivial, gs t.ne t.hl⟩
        · rintro i w' δi μi hw' ⟨x, y, z, rfl, rfl⟩
          rw [hzl, List.map_map, List.getElem?_map] at hw'
          cases hq : (ks.zip late)[i]? with
          | none => rw [hq] at hw'; cases hw'
          | some q =>
            rw [hq] at hw'
            cases hw'
            obtain ⟨b1, b2, b3, b4, b5⟩ := hall q (List.mem_of_getElem? hq)
            refine ⟨_, _, eg_tup (xs := [.int q.1, pairD q.2]) rfl (egs_cons eg_name (egs_cons (eg_tup (xs := [.int q.2.1, tileD q.2.2]) rfl (egs_cons eg_name (egs_cons eg_name egs_nil))) egs_nil)), ?_⟩
            dsimp only [List.set_cons_zero, List.set_cons_succ]
            generalize hcur : ((ks.zip late).take i).foldl failT sure = cur
            have hcl2 : cur.length = sure.length := by rw [← hcur, failF_len]
            have hc48 : ∀ z, z ∈ cur → z.length = 48 := by
              rw [← hcur]
              refine failF_48 hs1 fun z hz => ?_
              obtain ⟨c1, c2, c3, c4, c5⟩ := hall z (List.mem_of_mem_take hz)
              exact ⟨c1, c3, by omega⟩
            have hj : q.2.1.toNat < cur.length := by omega
            have hcell : (μ.set s (Cell.lst (sureW cur)))[s]? = some (.lst (sureW cur)) := gS t.hs
            have hob := gs (d := Cell.lst (sureW cur)) nsp t.ob
            refine st_asg (w := .d (tileD (q.2.2.take q.1.toNat ++ (cur.getD q.2.1.toNat []).drop q.1.toNat))) (ev_is (ev_op (ev_sl (x := .d (.tuple (q.2.2.map .int))) (ev_var rfl) eo_no (eo_some (ev_var rfl)) rs_tup) (ev_sl (x := .d (.tuple ((cur.getD q.2.1.toNat []).map .int))) (ev_op (ev_fld (ev_var rfl) hob T.c_Tiles T.n_Tiles__sure (tf_sure _ _ _)) (ev_var rfl) (rv_ix (.l (.p hcell)) (atW_nat b4 ?_))) (eo_some (ev_var rfl)) eo_no rs_tup) (rv_addT ?_)) ?_)
              (eg_subL (n := s) (i := q.2.1) (xs := sureW cur) (ev_fld (ev_var rfl) hob T.c_Tiles T.n_Tiles__sure (tf_sure _ _ _)) (ev_var rfl) hcell (ixN_nat b4 ?_)) ?_
            · unfold sureW
              rw [List.getElem?_map, List.getElem?_map, List.getElem?_eq_getElem hj, List.getD_eq_getElem?_getD, List.getElem?_eq_getElem hj]
              rfl
            · rw [cut_take b2, cut_drop b2, List.length_take, List.length_drop, List.length_map, List.length_map, b1, List.getD_eq_getElem?_getD, List.getElem?_eq_getElem hj]
              have := hc48 _ (List.getElem_mem hj)
              show min q.1.toNat 48 + (cur[q.2.1.toNat].length - q.1.toNat) ≤ sizeLine
              rw [this]
              exact Nat.le_trans (show _ ≤ 96 by omega) (by decide)
            · rw [cut_take b2, cut_drop b2, fail_tile q]
            · rw [sureW_len, hcl2]
              exact b5
            · refine ⟨_, _, _, rfl, ?_⟩
              rw [List.set_set, sureW_set, failF_more hq, hcur]
              rfl
        · rintro δi μi ⟨x, y, z, rfl, rfl⟩
          rw [List.length_map, hzl, List.length_map, List.take_length]
          show St _ _ _ _ _ _
          have e1 := ga (ys := [.lst []]) (gs (d := Cell.lst (sureW (failL sure ks late))) nsp t.ob)
          refine st_seq (st_fld (ev_lstP ea_nil (by decide)) (ev_var rfl) e1 T.c_Tiles T.n_Tiles__late (by show 3 < 1000; decide) ?_)
          show St _ _ _ _ _ _
          rw [tf_pl]
          have e2 := gS (d := .ins a.C_Tiles (tf s (μ.set s (Cell.lst (sureW (failL sure ks late)))).length true)) e1
          refine st_fld ev_bl (ev_var rfl) e2 T.c_Tiles T.n_Tiles__power (by show 3 < 1000; decide) ?_
          rw [tf_pp]
          exact .inl (o3 ks rfl rfl hk hc)
    · refine st_seq (st_ifT (μ1 := μ) ?_ (st_raise (.inl (o2 rfl hc))))
      refine et_is (et_or0 (b := true) hlen fun h => ?_) ?_
      · exact absurd (show (cs.length : Int) = (late.length : Int) by simpa using h) (by omega)
      · simp
def phStart (a : Ad) : DL.Spec := fun ws μ O => ∃ p s l sure late pw, ws = [.p p] ∧ TilesAt a.C_Tiles μ p s l sure late pw ∧ O (.ret (.d .none) (μ.set p (.ins a.C_Tiles (tf s l true))))
theorem ok_Tiles_start {P : Program} {w : World} {K : PySem.W.Frag} {mg : Str → Option Value} {base : Heap} {a : Ad} (T : Txt K mg a) : FnOk P w K mg base (L2.CX P w) 1 a.f_Tiles_start a.d_Tiles_start ["self"] (spOf K 1 (phStart a)) := by
  refine def_ok T.f_Tiles_start sc_Tiles_start rfl fun cdv A outer s H E hr => ?_
  have hu := hr.units
  refine ⟨_, (pss_one (ps_fld (pv 0) pe_bl rfl)), ?_⟩
  try dsimp only [cxOf_K]
  rintro ws μ O ⟨p, s, l, sure, late, pw, rfl, t, hO⟩ _ _
  change St K _ _ [some _] _ _
  refine st_fld ev_bl (ev_var rfl) t.ob T.c_Tiles T.n_Tiles__power (by show 3 < 1000; decide) ?_
  rw [tf_pp]
  exact .inl hO
end Mine

set_option Elab.async false
set_option linter.all false
set_option maxRecDepth 100000
set_option maxHeartbeats 4000000
namespace Mine
open PySem PySem.Spec PyProof.Rows L2 DL

local macro_rules | `(tactic| walk_at "e") => `(tactic| first
  | with_reducible exact ev_int
  | with_reducible exact ev_bl
  | with_reducible exact ev_str
  | with_reducible exact ev_non
  | ((with_reducible apply ev_var); rfl)
  | with_reducible exact ea_nil
  | with_reducible exact et_nil
  | with_reducible exact eo_no
  | with_reducible exact rv_addI
  | with_reducible exact rv_subI
  | with_reducible exact rv_ltI
  | with_reducible exact rv_leI
  | with_reducible exact rv_gtI
  | with_reducible exact rv_geI
  | with_reducible exact rv_eqI
  | with_reducible exact rv_neI
  | with_reducible exact rv_isB
  | with_reducible exact rv_notB
  | ((with_reducible apply rv_modI); first | assumption | omega | skip)
  | ((with_reducible apply rv_divI); first | assumption | (constructor <;> omega) | skip)
  | with_reducible exact ru_I
  | with_reducible exact rc_abs
  | with_reducible exact rc_int
  | with_reducible exact rs_tup
  | with_reducible exact Tru.b _
  | with_reducible exact Tru.n
  | with_reducible exact DL.Seq.t _
  | with_reducible exact DL.Seq.l (Its.d _)
  | with_reducible exact Its.d _
  | with_reducible exact Sees.d _
  | ((with_reducible apply DL.Seq.l); (with_reducible apply DL.Its.p); assumption)
  | ((with_reducible apply DL.Its.p); assumption)
  | (with_reducible apply ev_op) <;> walk_at "e"
  | (with_reducible apply ev_un) <;> walk_at "e"
  | (with_reducible apply ea_cons) <;> walk_at "e"
  | (with_reducible apply ev_cb) <;> walk_at "e"
  | (with_reducible apply et_test) <;> walk_at "e"
  | (with_reducible apply et_not) <;> walk_at "e"
  | (with_reducible apply et_tr) <;> walk_at "e"
  | (with_reducible apply ev_notT) <;> walk_at "e"
  | (with_reducible apply eo_some) <;> walk_at "e"
  | ((with_reducible apply rv_ix) <;> first | ((with_reducible show atW _ _ = some _); rfl) | walk_at "e")
  | with_reducible exact rc_isint
  | with_reducible exact rc_isbool
  | with_reducible exact rc_isstr
  | with_reducible exact rc_istuple
  | with_reducible exact rc_islist
  | (with_reducible apply rc_len) <;> walk_at "e"
  | (with_reducible apply ev_leLe) <;> walk_at "e"
  | (with_reducible apply ev_fld) <;> walk_at "e"
  | (with_reducible apply ev_sl) <;> walk_at "e"
  | with_reducible exact ev_con T.v_BLANK
  | with_reducible exact ev_raw
  | with_reducible assumption
  | with_reducible rfl
  | skip)

/-! ### copies -/
theorem TilesAt.app {C : Addr} {μ ys : Mu} {p s l : Nat} {sure : List (List Int)} {late : List (Int × List Int)} {pw : Bool} (t : TilesAt C μ p s l sure late pw) : TilesAt C (μ ++ ys) p s l sure late pw :=
  ⟨ga t.ob, ga t.hs, ga t.hl, t.zs, t.zl, t.ne⟩
def initL (C : Addr) (p n : Nat) (μ : Mu) : Nat := ((μ ++ [Cell.lst (sureW (List.replicate n blank))]).set p (Cell.ins C [("_sure", W.p μ.length)])).length
theorem initM_at {C : Addr} {p n : Nat} {μ : Mu} {c : Cell} (h : μ[p]? = some c) : (initM C p n μ)[p]? = some (.ins C (tf μ.length (initL C p n μ) true)) := by
  unfold initM initL
  exact gS (gS (ga (gS (ga h))))
theorem initM_keep {C : Addr} {p n k : Nat} {μ : Mu} {c : Cell} (h : μ[k]? = some c) (ne : p ≠ k) : (initM C p n μ)[k]? = some c := by
  unfold initM
  exact gs ne (gs ne (ga (gs ne (ga h))))
theorem initM_tiles {C : Addr} {p n : Nat} {μ : Mu} {c : Cell} (h : μ[p]? = some c) (hn : n ≤ 4000) : TilesAt C (initM C p n μ) p μ.length (initL C p n μ) (List.replicate n blank) [] true := by
  have hl := gl h
  refine ⟨initM_at h, ?_, ?_, by simpa using hn, by simp, ?_⟩
  · unfold initM
    exact gs (by omega) (gs (by omega) (ga (gs (by omega) gL)))
  · unfold initM initL
    have ne : p ≠ ((μ ++ [Cell.lst (sureW (List.replicate n blank))]).set p (Cell.ins C [("_sure", W.p μ.length)])).length := by
      rw [List.length_set, List.length_append]
      omega
    exact gs ne (gs ne gL)
  · unfold initL
    rw [List.length_set, List.length_append, List.length_cons]
    omega
def copyM (C : Addr) (sure : List (List Int)) (late : List (Int × List Int)) (pw : Bool) (μ : Mu) : Mu :=
  let m0 := initM C μ.length sure.length (μ ++ [Cell.ins C []])
  let l0 := initL C μ.length sure.length (μ ++ [Cell.ins C []])
  let m2 := (m0 ++ [Cell.lst (sureW sure)]).set μ.length (Cell.ins C (tf m0.length l0 true))
  let m4 := (m2 ++ [Cell.lst (lateW late)]).set μ.length (Cell.ins C (tf m0.length m2.length true))
  m4.set μ.length (Cell.ins C (tf m0.length m2.length pw))
theorem copyM_keep {C : Addr} {sure : List (List Int)} {late : List (Int × List Int)} {pw : Bool} {μ : Mu} {k : Nat} {c : Cell} (h : μ[k]? = some c) : (copyM C sure late pw μ)[k]? = some c := by
  have ne : μ.length ≠ k := gN h
  unfold copyM
  exact gs ne (gs ne (ga (gs ne (ga (initM_keep (ga h) ne)))))
theorem copyM_at {C : Addr} {sure : List (List Int)} {late : List (Int × List Int)} {pw : Bool} {μ : Mu} : ∃ s l, (copyM C sure late pw μ)[μ.length]? = some (.ins C (tf s l pw)) := by
  unfold copyM
  exact ⟨_, _, gS (gS (ga (gS (ga (initM_at gL)))))⟩
def phCopy (a : Ad) : DL.Spec := fun ws μ O => ∃ p s l sure late pw, ws = [.p p] ∧ TilesAt a.C_Tiles μ p s l sure late pw ∧ 1 ≤ sure.length ∧ O (.ret (.p μ.length) (copyM a.C_Tiles sure late pw μ))
theorem ok_Tiles_copy {P : Program} {w : World} {K : PySem.W.Frag} {mg : Str → Option Value} {base : Heap} {a : Ad} (T : Txt K mg a) : FnOk P w K mg base (L2.CX P w) 4 a.f_Tiles_copy a.d_Tiles_copy ["self"] (spOf K 1 (phCopy a)) := by
  refine def_ok T.f_Tiles_copy sc_Tiles_copy rfl fun cdv A outer s H E hr => ?_
  have hu := hr.units
  refine ⟨_, (pss_cons (ps_set (i := 1) sc_Tiles_copy.nd rfl (Or.inl rfl) (by exact (pe_makeU T.mk_Tiles (ok_Tiles_init__ T) (hr.mono (by decide)) rfl T.g_Tiles T.b_Tiles_init__ (takes_of rfl rfl rfl rfl) (by exact (pa_cons (pe_callB call_lenU rfl T.z_len (by decide +kernel) (pa_cons (pe_fld (pv 0) rfl) pa_nil)) pa_nil)))))
    (pss_cons (ps_fld (pv 1) (pe_callTy call_lstU rfl T.z_list (by decide +kernel) (pa_cons (pe_fld (pv 0) rfl) pa_nil)) rfl)
    (pss_cons (ps_fld (pv 1) (pe_callTy call_lstU rfl T.z_list (by decide +kernel) (pa_cons (pe_fld (pv 0) rfl) pa_nil)) rfl)
    (pss_cons (ps_fld (pv 1) (pe_fld (pv 0) rfl) rfl)
    (pss_one (ps_ret (pv 1))))))), ?_⟩
  try dsimp only [cxOf_K]
  rintro ws μ O ⟨p, s, l, sure, late, pw, rfl, t, h1, hO⟩ _ _
  change St K _ _ [some _, none] _ _
  have ht : TilesAt a.C_Tiles (initM a.C_Tiles μ.length sure.length (μ ++ [Cell.ins a.C_Tiles []])) p s l sure late pw :=
    ⟨initM_keep (ga t.ob) (gN t.ob), initM_keep (ga t.hs) (gN t.hs), initM_keep (ga t.hl) (gN t.hl), t.zs, t.zl, t.ne⟩
  refine st_seq (st_set (w := .p μ.length) (μ1 := initM a.C_Tiles μ.length sure.length (μ ++ [Cell.ins a.C_Tiles []])) (ev_make (ws := [.i (sure.length : Nat)]) (μ1 := μ) (ea_cons (ev_is (ev_cb (ea_cons (ev_fld (ev_var rfl) t.ob T.c_Tiles T.n_Tiles__sure (tf_sure _ _ _)) ea_nil) (rc_len (.l (.p t.hs)))) (by rw [sureW_len])) ea_nil) rfl
    ⟨_, _, rfl, gL, .inr ⟨sure.length, rfl, h1, t.zs, rfl⟩⟩) ?_)
  show St _ _ _ _ _ _
  dsimp only [List.set_cons_zero, List.set_cons_succ]
  have e0 := initM_at (C := a.C_Tiles) (n := sure.length) (gL (μ := μ) (c := Cell.ins a.C_Tiles []))
  generalize hm0 : initM a.C_Tiles μ.length sure.length (μ ++ [Cell.ins a.C_Tiles []]) = m0 at ht e0 ⊢
  have e1 := ga (ys := [Cell.lst (sureW sure)]) e0
  refine st_seq (st_fld (ev_cb (ea_cons (ev_fld (ev_var rfl) ht.ob T.c_Tiles T.n_Tiles__sure (tf_sure _ _ _)) ea_nil) (rc_lstP (.l (.p ht.hs)))) (ev_var rfl) e1 T.c_Tiles T.n_Tiles__sure (by show 3 < 1000; decide) ?_)
  show St _ _ _ _ _ _
  rw [tf_ps]
  have e2 := gS (d := Cell.ins a.C_Tiles (tf m0.length (initL a.C_Tiles μ.length sure.length (μ ++ [Cell.ins a.C_Tiles []])) true)) e1
  have ne : ∀ {k c}, μ[k]? = some c → μ.length ≠ k := gN
  have ht2 : TilesAt a.C_Tiles ((m0 ++ [Cell.lst (sureW sure)]).set μ.length (Cell.ins a.C_Tiles (tf m0.length (initL a.C_Tiles μ.length sure.length (μ ++ [Cell.ins a.C_Tiles []])) true))) p s l sure late pw :=
    ⟨gs (gN t.ob) (ga ht.ob), gs (gN t.hs) (ga ht.hs), gs (gN t.hl) (ga ht.hl), t.zs, t.zl, t.ne⟩
  generalize hm2 : (m0 ++ [Cell.lst (sureW sure)]).set μ.length (Cell.ins a.C_Tiles (tf m0.length (initL a.C_Tiles μ.length sure.length (μ ++ [Cell.ins a.C_Tiles []])) true)) = m2 at ht2 e2 ⊢
  have e3 := ga (ys := [Cell.lst (lateW late)]) e2
  refine st_seq (st_fld (ev_cb (ea_cons (ev_fld (ev_var rfl) ht2.ob T.c_Tiles T.n_Tiles__late (tf_late _ _ _)) ea_nil) (rc_lstP (.l (.p ht2.hl)))) (ev_var rfl) e3 T.c_Tiles T.n_Tiles__late (by show 3 < 1000; decide) ?_)
  show St _ _ _ _ _ _
  rw [tf_pl]
  have e4 := gS (d := Cell.ins a.C_Tiles (tf m0.length m2.length true)) e3
  have o4 := gs (d := Cell.ins a.C_Tiles (tf m0.length m2.length true)) (gN t.ob) (ga (ys := [Cell.lst (lateW late)]) ht2.ob)
  refine st_seq (st_fld (ev_fld (ev_var rfl) o4 T.c_Tiles T.n_Tiles__power (tf_power _ _ _)) (ev_var rfl) e4 T.c_Tiles T.n_Tiles__power (by show 3 < 1000; decide) ?_)
  show St _ _ _ _ _ _
  rw [tf_pp]
  refine st_ret (ev_var rfl) (.inl ?_)
  have e : copyM a.C_Tiles sure late pw μ = ((m2 ++ [Cell.lst (lateW late)]).set μ.length (Cell.ins a.C_Tiles (tf m0.length m2.length true))).set μ.length (Cell.ins a.C_Tiles (tf m0.length m2.length pw)) := by
    subst hm0
    subst hm2
    rfl
  rw [e] at hO
  exact hO
/-! ### without power nothing goes -/
theorem range_get {n i : Nat} {w : W} (h : (rangeW 0 n)[i]? = some w) : i < n ∧ w = .i (i : Nat) := by
  have hl : i < n := by
    have := (List.getElem?_eq_some_iff.mp h).1
    rwa [rangeW_len] at this
  refine ⟨hl, ?_⟩
  unfold rangeW at h
  rw [List.getElem?_map, List.getElem?_range hl] at h
  cases h
  simp
def phOff (a : Ad) : DL.Spec := fun ws μ O => ∃ p s l sure late, ws = [.p p] ∧ TilesAt a.C_Tiles μ p s l sure late false ∧ In sure.length late ∧ (∀ q, q ∈ sure → q.length = 48) ∧ (∀ q, q ∈ late → q.2.length = 48) ∧ O (.ret (.b true) μ)
theorem ok_law_off {P : Program} {w : World} {K : PySem.W.Frag} {mg : Str → Option Value} {base : Heap} {a : Ad} (T : Txt K mg a) : FnOk P w K mg base (L2.CX P w) 4 a.f_law_off a.d_law_off ["disk"] (spOf K 1 (phOff a)) := by
  refine def_ok T.f_law_off sc_law_off rfl fun cdv A outer s H E hr => ?_
  have hu := hr.units
  refine ⟨_, (pss_cons (ps_set (i := 1) sc_law_off.nd rfl (Or.inl rfl) pe_int)
    (pss_cons (ps_for (passes_of rfl) rfl (pi_range1 rfl T.z_range (pa_cons pe_int pa_nil)) (pg_name (i := 2) sc_law_off.nd rfl (Or.inl rfl)) (pss_one (ps_tryU (tb := fun W' => (tIfS (tTest (tOp (rEqA K) (tVar 2) (tC (.int 0)))) (tDrop (tMethU a.C_Tiles "get" (spOf K 2 (phGet a)) (WE W') (tVar 0) (tCons (tC (.int 0)) tNil))) (tIfS (tTest (tOp (rEqA K) (tVar 2) (tC (.int 1)))) (tDrop (tMethU a.C_Tiles "put" (spOf K 3 (phPut a)) (WE W') (tVar 0) (tCons (tC (.int 99)) (tCons (tC (.int 5)) tNil)))) (tIfS (tTest (tOp (rEqA K) (tVar 2) (tC (.int 2)))) (tDrop (tMethU a.C_Tiles "settle" (spOf K 1 (phSettle a)) (WE W') (tVar 0) tNil)) (tDrop (tMethU a.C_Tiles "fail" (spOf K 2 (phFail a)) (WE W') (tVar 0) (tCons (tLst tNil) tNil))))))) (ts := fun _ _ _ => (tAsg (tOp (rAddU K) (tVar 1) (tC (.int 1))) (gName 1))) (x := "PowerOff") rfl rfl ⟨rfl, by decide, Or.inl T.g_PowerOff⟩ (takes_of rfl rfl rfl rfl) (fun W' pn xe tk po => by exact (pss_one (ps_if (pt_cmpR (op_eqU hu) (pv 2) pe_int (nomark _)) (pss_one (ps_expr (by exact (pe_methU (by exact (pv 0)) T.c_Tiles T.m_Tiles_get (ok_Tiles_get T) (hr.mono (by decide)) T.b_Tiles_get tk (by exact (pa_cons pe_int pa_nil)))))) (pss_one (ps_if (pt_cmpR (op_eqU hu) (pv 2) pe_int (nomark _)) (pss_one (ps_expr (by exact (pe_methU (by exact (pv 0)) T.c_Tiles T.m_Tiles_put (ok_Tiles_put T) (hr.mono (by decide)) T.b_Tiles_put tk (by exact (pa_cons pe_int (pa_cons pe_int pa_nil))))))) (pss_one (ps_if (pt_cmpR (op_eqU hu) (pv 2) pe_int (nomark _)) (pss_one (ps_expr (by exact (pe_methU0 (by exact (pv 0)) T.c_Tiles T.m_Tiles_settle (ok_Tiles_settle T) (hr.mono (by decide)) T.b_Tiles_settle tk)))) (pss_one (ps_expr (by exact (pe_methU (by exact (pv 0)) T.c_Tiles T.m_Tiles_fail (ok_Tiles_fail T) (hr.mono (by decide)) T.b_Tiles_fail tk (by exact (pa_cons (pe_lst pa_nil) pa_nil))))))))))))) (fun a oe cls d pn _ _ => by exact (pss_one (ps_set (i := 1) sc_law_off.nd rfl (Or.inl rfl) (pe_op op_addU (pv 1) pe_int)))))))
    (pss_one (ps_ret (pe_and (pe_cmpR (op_eqU hu) (pv 1) pe_int (nomark _)) (pe_one (pe_cmpR op_isU (by exact (pe_methU0 (by exact (pv 0)) T.c_Tiles T.m_Tiles_has_power (ok_Tiles_has_power T) (hr.mono (by decide)) T.b_Tiles_has_power (takes_of rfl rfl rfl rfl))) pe_bl (nomark _)))))))), ?_⟩
  try dsimp only [cxOf_K]
  rintro ws μ O ⟨p, s, l, sure, late, rfl, t, hin, hs48, hl48, hO⟩ _ hcl
  change St K _ _ [some _, none, none] _ _
  refine st_seq (st_set (w := .i 0) (μ1 := μ) ev_int ?_)
  show St _ _ _ _ _ _
  dsimp only [List.set_cons_zero, List.set_cons_succ]
  refine st_seq (st_for (ei_rng1 (ea_cons ev_int ea_nil) (by decide) (by decide)) (fun i δ μi => ∃ x junk, δ = [some (.p p), some (.i (i : Nat)), x] ∧ μi = μ ++ junk) ⟨none, [], rfl, by simp⟩ (fun _ _ _ _ => trivial) ?_ ?_)
  · rintro i w δi μi hw ⟨x, junk, rfl, rfl⟩
    obtain ⟨hi, rfl⟩ := range_get hw
    have tj := t.app (ys := junk)
    refine ⟨_, _, eg_name, ?_⟩
    dsimp only [List.set_cons_zero, List.set_cons_succ]
    refine st_try fun X' => ?_
    have fin : ∀ junk' : Mu, TryO K (fun cls d _ H => E cls d H) (.ref a.C_PowerOff) (fun _ _ _ => tAsg (tOp (rAddU K) (tVar 1) (tC (.int 1))) (gName 1)) (Lp (fun δ μi => ∃ x junk, δ = [some (.p p), some (.i ((i + 1 : Nat) : Int)), x] ∧ μi = μ ++ junk) (Sq K (fun cls d _ H => E cls d H) (tRet (tAndV (tOp (rEqA K) (tVar 1) (tC (.int 4))) (tOp rIsB (tMethU a.C_Tiles "has_power" (spOf K 1 (phPower a)) (WE (fun cls d _ H => E cls d H)) (tVar 0) tNil) (tC (.bl false))))) (DL.Fin μ.length O)))
        (.exc (.ref a.C_PowerOff) [some (.p p), some (.i (i : Nat)), some (.i (i : Nat))] (μ ++ junk')) := fun junk' => by
      refine ⟨true, T.e_PowerOff_PowerOff, fun _ _ => ?_, fun q => nomatch q⟩
      refine st_set (ev_op (ev_var rfl) ev_int rv_addI) ?_
      exact ⟨_, junk', rfl, rfl⟩
    have hne : ∀ {m : Str}, ¬ m = "_sure" → ¬ m = "_late" → ¬ m = "_power" → (tf s l false).lookup m = none := fun h1 h2 h3 => tf_no _ _ _ h1 h2 h3
    have hi4 : i < 4 := hi
    have hcase : i = 0 ∨ i = 1 ∨ i = 2 ∨ i = 3 := by omega
    rcases hcase with rfl | rfl | rfl | rfl
    · refine st_ifT (et_is (et_test (ev_op (ev_var rfl) ev_int rv_eqI)) rfl) ?_
      exact st_dropX (evx_meth (ev_var rfl) tj.ob (hne (by decide +kernel) (by decide +kernel) (by decide +kernel)) (ea_cons ev_int ea_nil) rfl ⟨p, s, l, sure, late, false, _, rfl, tj, (fun _ => rfl), (fun q => nomatch q), (fun _ q => nomatch q)⟩) (fin junk)
    · refine st_ifF (et_is (et_test (ev_op (ev_var rfl) ev_int rv_eqI)) rfl) (st_ifT (et_is (et_test (ev_op (ev_var rfl) ev_int rv_eqI)) rfl) ?_)
      exact st_dropX (evx_meth (ev_var rfl) tj.ob (hne (by decide +kernel) (by decide +kernel) (by decide +kernel)) (ea_cons ev_int (ea_cons ev_int ea_nil)) rfl ⟨p, s, l, sure, late, false, _, _, rfl, tj, (fun _ q => nomatch q), (fun _ => rfl), (fun q => nomatch q), (fun q => nomatch q), (fun _ _ q => nomatch q)⟩) (fin junk)
    · refine st_ifF (et_is (et_test (ev_op (ev_var rfl) ev_int rv_eqI)) rfl) (st_ifF (et_is (et_test (ev_op (ev_var rfl) ev_int rv_eqI)) rfl) (st_ifT (et_is (et_test (ev_op (ev_var rfl) ev_int rv_eqI)) rfl) ?_))
      exact st_dropX (evx_meth (ev_var rfl) tj.ob (hne (by decide +kernel) (by decide +kernel) (by decide +kernel)) ea_nil rfl ⟨p, s, l, sure, late, false, rfl, tj, hin, (fun _ => rfl), (fun q => nomatch q)⟩) (fin junk)
    · refine st_ifF (et_is (et_test (ev_op (ev_var rfl) ev_int rv_eqI)) rfl) (st_ifF (et_is (et_test (ev_op (ev_var rfl) ev_int rv_eqI)) rfl) (st_ifF (et_is (et_test (ev_op (ev_var rfl) ev_int rv_eqI)) rfl) ?_))
      exact st_dropX (evx_meth (ev_var rfl) tj.ob (hne (by decide +kernel) (by decide +kernel) (by decide +kernel)) (ea_cons (x := .d (.list [])) (ev_lstD ea_nil rfl (by decide)) ea_nil) rfl ⟨p, s, l, sure, late, false, _, [], rfl, tj, .l (.d []), hin, (by decide), hs48, hl48, (fun q => nomatch q), (fun _ => rfl), (fun q => nomatch q), (fun _ q => nomatch q)⟩) (fin junk)
  · rintro δi μi ⟨x, junk, rfl, rfl⟩
    show St _ _ _ _ _ _
    refine st_ret (w := .b true) (μ1 := μ ++ junk) (ev_is (ev_andV (a := true) (b := true) (ev_is (ev_op (ev_var rfl) ev_int rv_eqI) ?_) fun _ => ev_is (ev_op (ev_meth (n := 1) (ws := []) (w := .b false) (ev_var rfl) (ga (ys := junk) t.ob) (tf_no _ _ _ (by decide +kernel) (by decide +kernel) (by decide +kernel)) ea_nil rfl ⟨p, s, l, false, rfl, ga t.ob, rfl⟩) ev_bl rv_isB) ?_) rfl) (.inr ⟨μ, junk, rfl, Nat.le_refl _, hcl, trivial, hO⟩)
    · rw [rangeW_len]
      rfl
    · rfl
end Mine

set_option Elab.async false
set_option linter.all false
set_option maxRecDepth 100000
set_option maxHeartbeats 4000000
namespace Mine
open PySem PySem.Spec PyProof.Rows L2 DL

local macro_rules | `(tactic| walk_at "e") => `(tactic| first
  | with_reducible exact ev_int
  | with_reducible exact ev_bl
  | with_reducible exact ev_str
  | with_reducible exact ev_non
  | ((with_reducible apply ev_var); rfl)
  | with_reducible exact ea_nil
  | with_reducible exact et_nil
  | with_reducible exact eo_no
  | with_reducible exact rv_addI
  | with_reducible exact rv_subI
  | with_reducible exact rv_ltI
  | with_reducible exact rv_leI
  | with_reducible exact rv_gtI
  | with_reducible exact rv_geI
  | with_reducible exact rv_eqI
  | with_reducible exact rv_neI
  | with_reducible exact rv_isB
  | with_reducible exact rv_notB
  | ((with_reducible apply rv_modI); first | assumption | omega | skip)
  | ((with_reducible apply rv_divI); first | assumption | (constructor <;> omega) | skip)
  | with_reducible exact ru_I
  | with_reducible exact rc_abs
  | with_reducible exact rc_int
  | with_reducible exact rs_tup
  | with_reducible exact Tru.b _
  | with_reducible exact Tru.n
  | with_reducible exact DL.Seq.t _
  | with_reducible exact DL.Seq.l (Its.d _)
  | with_reducible exact Its.d _
  | with_reducible exact Sees.d _
  | ((with_reducible apply DL.Seq.l); (with_reducible apply DL.Its.p); assumption)
  | ((with_reducible apply DL.Its.p); assumption)
  | (with_reducible apply ev_op) <;> walk_at "e"
  | (with_reducible apply ev_un) <;> walk_at "e"
  | (with_reducible apply ea_cons) <;> walk_at "e"
  | (with_reducible apply ev_cb) <;> walk_at "e"
  | (with_reducible apply et_test) <;> walk_at "e"
  | (with_reducible apply et_not) <;> walk_at "e"
  | (with_reducible apply et_tr) <;> walk_at "e"
  | (with_reducible apply ev_notT) <;> walk_at "e"
  | (with_reducible apply eo_some) <;> walk_at "e"
  | ((with_reducible apply rv_ix) <;> first | ((with_reducible show atW _ _ = some _); rfl) | walk_at "e")
  | with_reducible exact rc_isint
  | with_reducible exact rc_isbool
  | with_reducible exact rc_isstr
  | with_reducible exact rc_istuple
  | with_reducible exact rc_islist
  | (with_reducible apply rc_len) <;> walk_at "e"
  | (with_reducible apply ev_leLe) <;> walk_at "e"
  | (with_reducible apply ev_fld) <;> walk_at "e"
  | (with_reducible apply ev_sl) <;> walk_at "e"
  | with_reducible exact ev_con T.v_BLANK
  | with_reducible exact ev_raw
  | with_reducible assumption
  | with_reducible rfl
  | skip)

def phRaised (a : Ad) : DL.Spec := fun ws μ O => ∃ p s l sure late, ws = [.p p] ∧ TilesAt a.C_Tiles μ p s l sure late true ∧ 1 ≤ sure.length ∧ In sure.length late ∧ (∀ q, q ∈ sure → q.length = 48) ∧ (∀ q, q ∈ late → q.2.length = 48) ∧ O (.ret (.b true) μ)
theorem flat1 {α : Type} (x : α) (n : Nat) : (List.replicate n [x]).flatten = List.replicate n x := by
  induction n with
  | zero => rfl
  | succ n ih => rw [List.replicate_succ, List.flatten_cons, ih]; rfl
theorem ok_law_raised {P : Program} {w : World} {K : PySem.W.Frag} {mg : Str → Option Value} {base : Heap} {a : Ad} (T : Txt K mg a) : FnOk P w K mg base (L2.CX P w) 4 a.f_law_raised a.d_law_raised ["disk"] (spOf K 1 (phRaised a)) := by
  refine def_ok T.f_law_raised sc_law_raised rfl fun cdv A outer s H E hr => ?_
  have hu := hr.units
  refine ⟨_, (pss_cons (ps_set (i := 1) sc_law_raised.nd rfl (Or.inl rfl) pe_int)
    (pss_cons (ps_for (passes_of rfl) rfl (pi_range1 rfl T.z_range (pa_cons pe_int pa_nil)) (pg_name (i := 2) sc_law_raised.nd rfl (Or.inl rfl)) (pss_one (ps_tryU (tb := fun W' => (tIfS (tTest (tOp (rEqA K) (tVar 2) (tC (.int 0)))) (tDrop (tMethU a.C_Tiles "get" (spOf K 2 (phGet a)) (WE W') (tVar 0) (tCons (tMethU a.C_Tiles "count" (spOf K 1 (phCount a)) (WE W') (tVar 0) tNil) tNil))) (tIfS (tTest (tOp (rEqA K) (tVar 2) (tC (.int 1)))) (tDrop (tMethU a.C_Tiles "put" (spOf K 3 (phPut a)) (WE W') (tVar 0) (tCons (tC (.int 0)) (tCons (tOp (rMulU K) (tTup (tCons (tC (.int 1)) tNil)) (tC (.int 47))) tNil)))) (tIfS (tTest (tOp (rEqA K) (tVar 2) (tC (.int 2)))) (tDrop (tMethU a.C_Tiles "put" (spOf K 3 (phPut a)) (WE W') (tVar 0) (tCons (tC (.bl true)) (tCons (tOp (rMulU K) (tTup (tCons (tC (.int 1)) tNil)) (tC (.int 48))) tNil)))) (tIfS (tTest (tOp (rEqA K) (tVar 2) (tC (.int 3)))) (tDrop (tMethU a.C_Tiles "fail" (spOf K 2 (phFail a)) (WE W') (tVar 0) (tCons (tOp (rMulU K) (tLst (tCons (tC (.int 49)) tNil)) (tOp (rAddU K) (tCB (rLenU K) (tCons (tMethU a.C_Tiles "late" (spOf K 1 (phLate a)) (WE W') (tVar 0) tNil) tNil)) (tC (.int 1)))) tNil))) (tIfS (tTest (tOp (rEqA K) (tVar 2) (tC (.int 4)))) (tDrop (tMakeU a.C_Tiles (spOf K 2 (phInit a)) (WE W') (tCons (tC (.int 0)) tNil))) (tDrop (tMethU a.C_Tiles "put" (spOf K 3 (phPut a)) (WE W') (tVar 0) (tCons (tC (.int 0)) (tCons (tOp (rMulU K) (tTup (tCons (tC (.int 256)) tNil)) (tC (.int 48))) tNil)))))))))) (ts := fun _ _ _ => (tAsg (tOp (rAddU K) (tVar 1) (tC (.int 1))) (gName 1))) (x := "InvalidArgument") rfl rfl ⟨rfl, by decide, Or.inl T.g_InvalidArgument⟩ (takes_of rfl rfl rfl rfl) (fun W' pn xe tk po => by exact (pss_one (ps_if (pt_cmpR (op_eqU hu) (pv 2) pe_int (nomark _)) (pss_one (ps_expr (by exact (pe_methU (by exact (pv 0)) T.c_Tiles T.m_Tiles_get (ok_Tiles_get T) (hr.mono (by decide)) T.b_Tiles_get tk (by exact (pa_cons (by exact (pe_methU0 (by exact (pv 0)) T.c_Tiles T.m_Tiles_count (ok_Tiles_count T) (hr.mono (by decide)) T.b_Tiles_count tk)) pa_nil)))))) (pss_one (ps_if (pt_cmpR (op_eqU hu) (pv 2) pe_int (nomark _)) (pss_one (ps_expr (by exact (pe_methU (by exact (pv 0)) T.c_Tiles T.m_Tiles_put (ok_Tiles_put T) (hr.mono (by decide)) T.b_Tiles_put tk (by exact (pa_cons pe_int (pa_cons (pe_op op_mulU (pe_tup (pa_cons pe_int pa_nil)) pe_int) pa_nil))))))) (pss_one (ps_if (pt_cmpR (op_eqU hu) (pv 2) pe_int (nomark _)) (pss_one (ps_expr (by exact (pe_methU (by exact (pv 0)) T.c_Tiles T.m_Tiles_put (ok_Tiles_put T) (hr.mono (by decide)) T.b_Tiles_put tk (by exact (pa_cons pe_bl (pa_cons (pe_op op_mulU (pe_tup (pa_cons pe_int pa_nil)) pe_int) pa_nil))))))) (pss_one (ps_if (pt_cmpR (op_eqU hu) (pv 2) pe_int (nomark _)) (pss_one (ps_expr (by exact (pe_methU (by exact (pv 0)) T.c_Tiles T.m_Tiles_fail (ok_Tiles_fail T) (hr.mono (by decide)) T.b_Tiles_fail tk (by exact (pa_cons (pe_op op_mulU (pe_lst (pa_cons pe_int pa_nil)) (pe_op op_addU (pe_callB call_lenU rfl T.z_len (by decide +kernel) (pa_cons (by exact (pe_methU0 (by exact (pv 0)) T.c_Tiles T.m_Tiles_late (ok_Tiles_late T) (hr.mono (by decide)) T.b_Tiles_late tk)) pa_nil)) pe_int)) pa_nil)))))) (pss_one (ps_if (pt_cmpR (op_eqU hu) (pv 2) pe_int (nomark _)) (pss_one (ps_expr (by exact (pe_makeU T.mk_Tiles (ok_Tiles_init__ T) (hr.mono (by decide)) rfl T.g_Tiles T.b_Tiles_init__ tk (by exact (pa_cons pe_int pa_nil)))))) (pss_one (ps_expr (by exact (pe_methU (by exact (pv 0)) T.c_Tiles T.m_Tiles_put (ok_Tiles_put T) (hr.mono (by decide)) T.b_Tiles_put tk (by exact (pa_cons pe_int (pa_cons (pe_op op_mulU (pe_tup (pa_cons pe_int pa_nil)) pe_int) pa_nil)))))))))))))))))) (fun a oe cls d pn _ _ => by exact (pss_one (ps_set (i := 1) sc_law_raised.nd rfl (Or.inl rfl) (pe_op op_addU (pv 1) pe_int)))))))
    (pss_one (ps_ret (pe_cmpR (op_eqU hu) (pv 1) pe_int (nomark _)))))), ?_⟩
  try dsimp only [cxOf_K]
  rintro ws μ O ⟨p, s, l, sure, late, rfl, t, hn, hin, hs48, hl48, hO⟩ _ hcl
  change St K _ _ [some _, none, none] _ _
  refine st_seq (st_set (w := .i 0) (μ1 := μ) ev_int ?_)
  show St _ _ _ _ _ _
  dsimp only [List.set_cons_zero, List.set_cons_succ]
  refine st_seq (st_for (ei_rng1 (ea_cons ev_int ea_nil) (by decide) (by decide)) (fun i δ μi => ∃ x junk, δ = [some (.p p), some (.i (i : Nat)), x] ∧ μi = μ ++ junk) ⟨none, [], rfl, by simp⟩ (fun _ _ _ _ => trivial) ?_ ?_)
  · rintro i w δi μi hw ⟨x, junk, rfl, rfl⟩
    obtain ⟨hi, rfl⟩ := range_get hw
    have tj := t.app (ys := junk)
    refine ⟨_, _, eg_name, ?_⟩
    dsimp only [List.set_cons_zero, List.set_cons_succ]
    refine st_try fun X' => ?_
    have fin : ∀ μj : Mu, (∃ junk', μj = μ ++ junk') → TryO K (fun cls d _ H => E cls d H) (.ref a.C_InvalidArgument) (fun _ _ _ => tAsg (tOp (rAddU K) (tVar 1) (tC (.int 1))) (gName 1)) (Lp (fun δ μi => ∃ x junk, δ = [some (.p p), some (.i ((i + 1 : Nat) : Int)), x] ∧ μi = μ ++ junk) (Sq K (fun cls d _ H => E cls d H) (tRet (tOp (rEqA K) (tVar 1) (tC (.int 6)))) (DL.Fin μ.length O)))
        (.exc (.ref a.C_InvalidArgument) [some (.p p), some (.i (i : Nat)), some (.i (i : Nat))] μj) := fun μj hj => by
      obtain ⟨junk', rfl⟩ := hj
      refine ⟨true, T.e_InvalidArgument_InvalidArgument, fun _ _ => ?_, fun q => nomatch q⟩
      refine st_set (ev_op (ev_var rfl) ev_int rv_addI) ?_
      exact ⟨_, junk', rfl, rfl⟩
    have hne : ∀ {m : Str}, ¬ m = "_sure" → ¬ m = "_late" → ¬ m = "_power" → (tf s l true).lookup m = none := fun h1 h2 h3 => tf_no _ _ _ h1 h2 h3
    have hcount : ∀ {W' : L2.St → XK} {x}, Ev K (tMethU a.C_Tiles "count" (spOf K 1 (phCount a)) W' (tVar 0) tNil) [some (.p p), some (.i (i : Nat)), x] (μ ++ junk) (.i (sure.length : Nat)) (μ ++ junk) := fun {W' x} =>
      ev_meth (n := 1) (ws := []) (ev_var rfl) tj.ob (hne (by decide +kernel) (by decide +kernel) (by decide +kernel)) ea_nil rfl ⟨p, s, l, sure, late, true, rfl, tj, rfl⟩
    have hr0 : isNum (.int 0) 0 ((sure.length : Int) - 1) = true := by simp [isNum]; omega
    have hcase : i = 0 ∨ i = 1 ∨ i = 2 ∨ i = 3 ∨ i = 4 ∨ i = 5 := by
      have : i < 6 := hi
      omega
    rcases hcase with rfl | rfl | rfl | rfl | rfl | rfl
    · refine st_ifT (et_is (et_test (ev_op (ev_var rfl) ev_int rv_eqI)) rfl) ?_
      refine st_dropX (evx_meth (ev_var rfl) tj.ob (hne (by decide +kernel) (by decide +kernel) (by decide +kernel)) (ea_cons hcount ea_nil) rfl ⟨p, s, l, sure, late, true, _, rfl, tj, (fun q => nomatch q), (fun _ _ => rfl), (fun i _ h1 h2 h3 => ?_)⟩) (fin _ ⟨junk, rfl⟩)
      cases h1
      omega
    · refine st_ifF (et_is (et_test (ev_op (ev_var rfl) ev_int rv_eqI)) rfl) (st_ifT (et_is (et_test (ev_op (ev_var rfl) ev_int rv_eqI)) rfl) ?_)
      refine st_dropX (evx_meth (ev_var rfl) tj.ob (hne (by decide +kernel) (by decide +kernel) (by decide +kernel)) (ea_cons ev_int (ea_cons (ev_op (ev_tup (xs := [.int 1]) (ea_cons ev_int ea_nil) rfl (by decide)) ev_int (rv_mulT (by simp) (by decide) (by decide) (by decide))) ea_nil)) rfl ⟨p, s, l, sure, late, true, _, _, rfl, tj, ?_, (fun q => nomatch q), (fun _ _ => rfl), (fun _ _ _ => rfl), (fun i t _ _ _ _ _ _ h => ?_)⟩) (fin _ ⟨junk, rfl⟩)
      · intro ys e
        cases e
        decide
      · exact absurd h (by decide)
    · refine st_ifF (et_is (et_test (ev_op (ev_var rfl) ev_int rv_eqI)) rfl) (st_ifF (et_is (et_test (ev_op (ev_var rfl) ev_int rv_eqI)) rfl) (st_ifT (et_is (et_test (ev_op (ev_var rfl) ev_int rv_eqI)) rfl) ?_))
      refine st_dropX (evx_meth (ev_var rfl) tj.ob (hne (by decide +kernel) (by decide +kernel) (by decide +kernel)) (ea_cons ev_bl (ea_cons (ev_op (ev_tup (xs := [.int 1]) (ea_cons ev_int ea_nil) rfl (by decide)) ev_int (rv_mulT (by simp) (by decide) (by decide) (by decide))) ea_nil)) rfl ⟨p, s, l, sure, late, true, _, _, rfl, tj, ?_, (fun q => nomatch q), (fun _ _ => rfl), (fun _ q => nomatch q), (fun i t _ h => nomatch h)⟩) (fin _ ⟨junk, rfl⟩)
      intro ys e
      cases e
      decide
    · refine st_ifF (et_is (et_test (ev_op (ev_var rfl) ev_int rv_eqI)) rfl) (st_ifF (et_is (et_test (ev_op (ev_var rfl) ev_int rv_eqI)) rfl) (st_ifF (et_is (et_test (ev_op (ev_var rfl) ev_int rv_eqI)) rfl) (st_ifT (et_is (et_test (ev_op (ev_var rfl) ev_int rv_eqI)) rfl) ?_)))
      have hzl := t.zl
      have t1 := tj.app (ys := [Cell.lst [.i 49]])
      have t2 := t1.app (ys := [Cell.lst (List.replicate ((late.length : Int) + 1).toNat [W.i 49]).flatten])
      have e4 : (List.replicate ((late.length : Int) + 1).toNat [W.i 49]).flatten = (List.replicate (late.length + 1) (PyData.int 49)).map W.d := by
        rw [flat1, List.map_replicate]
        congr 1
      refine st_dropX (evx_meth (ev_var rfl) tj.ob (hne (by decide +kernel) (by decide +kernel) (by decide +kernel)) (ea_cons (ev_op (ev_lstP (ea_cons ev_int ea_nil) (by show 1 ≤ sizeLine; decide)) (ev_op (ev_is (y := .i (late.length : Int)) (ev_cb (ea_cons (ev_meth (n := 1) (ws := []) (ev_var rfl) t1.ob (hne (by decide +kernel) (by decide +kernel) (by decide +kernel)) ea_nil rfl ⟨p, s, l, sure, late, true, rfl, t1, rfl⟩) ea_nil) (rc_len (.l (.d _)))) (by simp)) ev_int rv_addI) (rv_mulL gL ?_ ?_ ?_)) ea_nil) rfl
        ⟨p, s, l, sure, late, true, _, List.replicate (late.length + 1) (.int 49), rfl, t2, ?_, hin, ?_, hs48, hl48, (fun _ q => ?_), (fun q => nomatch q), (fun _ _ => rfl), (fun _ _ _ _ q => ?_)⟩) (fin _ ⟨junk ++ [Cell.lst [.i 49]] ++ [Cell.lst (List.replicate ((late.length : Int) + 1).toNat [W.i 49]).flatten], by simp⟩)
      · omega
      · omega
      · show 1 * ((late.length : Int) + 1).toNat ≤ sizeLine
        exact Nat.le_trans (show _ ≤ 2000 by omega) (by decide)
      · refine .l (.p ?_)
        rw [← e4]
        exact gL
      · rw [List.length_replicate]
        omega
      · rw [List.length_replicate] at q
        omega
      · rw [List.length_replicate] at q
        omega
    · refine st_ifF (et_is (et_test (ev_op (ev_var rfl) ev_int rv_eqI)) rfl) (st_ifF (et_is (et_test (ev_op (ev_var rfl) ev_int rv_eqI)) rfl) (st_ifF (et_is (et_test (ev_op (ev_var rfl) ev_int rv_eqI)) rfl) (st_ifF (et_is (et_test (ev_op (ev_var rfl) ev_int rv_eqI)) rfl) (st_ifT (et_is (et_test (ev_op (ev_var rfl) ev_int rv_eqI)) rfl) ?_))))
      exact st_dropX (evx_makeJ (ws := [.i 0]) (μ1 := μ ++ junk) (ea_cons ev_int ea_nil) rfl ⟨_, _, rfl, gL, .inl ⟨rfl, rfl⟩⟩) (fin _ ⟨junk ++ [Cell.ins a.C_Tiles []], by simp⟩)
    · refine st_ifF (et_is (et_test (ev_op (ev_var rfl) ev_int rv_eqI)) rfl) (st_ifF (et_is (et_test (ev_op (ev_var rfl) ev_int rv_eqI)) rfl) (st_ifF (et_is (et_test (ev_op (ev_var rfl) ev_int rv_eqI)) rfl) (st_ifF (et_is (et_test (ev_op (ev_var rfl) ev_int rv_eqI)) rfl) (st_ifF (et_is (et_test (ev_op (ev_var rfl) ev_int rv_eqI)) rfl) ?_))))
      refine st_dropX (evx_meth (ev_var rfl) tj.ob (hne (by decide +kernel) (by decide +kernel) (by decide +kernel)) (ea_cons ev_int (ea_cons (ev_op (ev_tup (xs := [.int 256]) (ea_cons ev_int ea_nil) rfl (by decide)) ev_int (rv_mulT (by simp) (by decide) (by decide) (by decide))) ea_nil)) rfl ⟨p, s, l, sure, late, true, _, _, rfl, tj, ?_, (fun q => nomatch q), (fun _ _ => rfl), (fun _ _ _ => rfl), (fun i t _ _ _ _ _ h _ => ?_)⟩) (fin _ ⟨junk, rfl⟩)
      · intro ys e
        cases e
        decide
      · exact absurd h (by decide)
  · rintro δi μi ⟨x, junk, rfl, rfl⟩
    show St _ _ _ _ _ _
    refine st_ret (w := .b true) (μ1 := μ ++ junk) (ev_is (ev_op (ev_var rfl) ev_int rv_eqI) ?_) (.inr ⟨μ, junk, rfl, Nat.le_refl _, hcl, trivial, hO⟩)
    rw [rangeW_len]
    rfl
end Mine

set_option Elab.async false
set_option linter.all false
set_option maxRecDepth 100000
set_option maxHeartbeats 4000000
namespace Mine
open PySem PySem.Spec PyProof.Rows L2 DL

/-! ### the mathematics -/
theorem getT_cons (sure : List (List Int)) (q : Int × List Int) (r : List (Int × List Int)) (i : Int) (h0 : 0 ≤ q.1) (hi0 : 0 ≤ i) (hi : i < (sure.length : Int)) : getT sure (q :: r) i = getT (sure.set q.1.toNat q.2) r i := by
  unfold getT lateAt
  by_cases c : q.1 = i
  · rw [List.filter_cons, if_pos (decide_eq_true c)]
    cases hx : (List.filter (fun q => decide (q.1 = i)) r).getLast? with
    | none =>
      rw [List.getLast?_eq_none_iff.mp hx]
      show q.2 = _
      rw [c, List.getD_eq_getElem?_getD, List.getElem?_set_self (by omega)]
      rfl
    | some z =>
      have e : (q :: List.filter (fun q => decide (q.1 = i)) r).getLast? = some z := by
        rw [List.getLast?_cons, hx]
        rfl
      rw [e]
  · rw [List.filter_cons, if_neg (by simpa using c)]
    cases hx : (List.filter (fun q => decide (q.1 = i)) r).getLast? with
    | none =>
      show sure.getD i.toNat [] = (sure.set q.1.toNat q.2).getD i.toNat []
      rw [List.getD_eq_getElem?_getD, List.getD_eq_getElem?_getD, List.getElem?_set_ne (by omega)]
    | some z => rfl
theorem getT_apply : ∀ (late : List (Int × List Int)) (sure : List (List Int)) (i : Nat), In sure.length late → i < sure.length → (applyL sure late)[i]? = some (getT sure late (i : Nat))
  | [], sure, i, _, hi => by
    show sure[i]? = some (sure.getD i [])
    rw [List.getD_eq_getElem?_getD, List.getElem?_eq_getElem hi]
    rfl
  | q :: r, sure, i, hin, hi => by
    have hq := hin q List.mem_cons_self
    rw [getT_cons sure q r i hq.1 (by omega) (by omega)]
    show (applyL (sure.set q.1.toNat q.2) r)[i]? = _
    refine getT_apply r (sure.set q.1.toNat q.2) i ?_ (by rw [List.length_set]; exact hi)
    rw [List.length_set]
    exact fun x hx => hin x (List.mem_cons_of_mem _ hx)
theorem reads_eq (sure : List (List Int)) (late : List (Int × List Int)) (hin : In sure.length late) : (List.range sure.length).map (fun i => getT sure late ((i : Nat) : Int)) = applyL sure late := by
  refine List.ext_getElem? fun i => ?_
  by_cases h : i < sure.length
  · rw [List.getElem?_map, List.getElem?_range h, getT_apply late sure i hin h]
    rfl
  · rw [List.getElem?_eq_none (by simpa using h), List.getElem?_eq_none (by rw [applyL_len]; omega)]
theorem dataT_len (f : Int) : (dataT f).length = 48 := by simp [dataT]
theorem dataT_bytes (f : Int) : isBytes (tileD (dataT f)) = true := by
  unfold isBytes tileD
  rw [List.all_eq_true]
  intro x hx
  obtain ⟨y, hy, rfl⟩ := List.mem_map.mp hx
  unfold dataT at hy
  obtain ⟨k, hk, rfl⟩ := List.mem_map.mp hy
  have h1 := Int.emod_nonneg (f + (k : Nat) * 5) (show (256 : Int) ≠ 0 by decide)
  have h2 := Int.emod_lt_of_pos (f + (k : Nat) * 5) (show (0 : Int) < 256 by decide)
  simp only [isNum, Bool.and_eq_true, decide_eq_true_eq]
  omega
theorem takeF_range (ns : List Int) (k big lim : Int) (h : 0 < lim) : 0 ≤ takeF ns k big lim ∧ takeF ns k big lim < lim := by
  unfold takeF
  split
  · exact ⟨Int.emod_nonneg _ (by omega), Int.emod_lt_of_pos _ h⟩
  · exact ⟨Int.emod_nonneg _ (by omega), Int.emod_lt_of_pos _ h⟩
theorem takeK_nn (k big : Int) (h : 0 ≤ k) : 0 ≤ takeK k big := by
  unfold takeK
  split <;> omega
/-- one drawn number of bytes that came through -/
def came1 (f g : Int) : Int := if g = 0 then 0 else if g = 1 then 48 else f
theorem came1_range {f g : Int} (h : 0 ≤ f ∧ f < 49) : 0 ≤ came1 f g ∧ came1 f g ≤ 48 := by
  unfold came1
  split
  · omega
  · split <;> omega
def cameS (ns : List Int) (k big : Int) : Nat → List Int × Int × Int
  | 0 => ([], k, big)
  | j + 1 =>
    let x := cameS ns k big j
    let k2 := takeK x.2.1 x.2.2
    let b2 := takeB ns x.2.1 x.2.2 49
    (x.1 ++ [came1 (takeF ns x.2.1 x.2.2 49) (takeF ns k2 b2 3)], takeK k2 b2, takeB ns k2 b2 3)
theorem cameS_ok (ns : List Int) (k big : Int) (h : 0 ≤ k) : ∀ j, 0 ≤ (cameS ns k big j).2.1 ∧ (cameS ns k big j).1.length = j ∧ ∀ x, x ∈ (cameS ns k big j).1 → 0 ≤ x ∧ x ≤ 48
  | 0 => ⟨h, rfl, fun x hx => nomatch hx⟩
  | j + 1 => by
    obtain ⟨h1, h2, h3⟩ := cameS_ok ns k big h j
    refine ⟨takeK_nn _ _ (takeK_nn _ _ h1), ?_, fun x hx => ?_⟩
    · show (_ ++ [_]).length = _
      rw [List.length_append, h2]
      rfl
    · rcases List.mem_append.mp hx with hx | hx
      · exact h3 x hx
      · have e := List.mem_singleton.mp hx
        rw [e]
        exact came1_range (takeF_range _ _ _ _ (by decide))
theorem lay_ints : ∀ t : List Int, PyData.canLayAll0 (t.map .int) = true
  | [] => rfl
  | x :: t => by
    rw [List.map_cons]
    simp only [PyData.canLayAll0, PyData.canLay0, lay_ints t, Bool.and_self]
theorem lay_tiles : ∀ ts : List (List Int), PyData.canLayAll0 (ts.map tileD) = true
  | [] => rfl
  | t :: ts => by
    rw [List.map_cons]
    simp only [PyData.canLayAll0, lay_tiles ts, Bool.and_true]
    unfold tileD
    simp only [PyData.canLay0, lay_ints]
theorem dep_ints : ∀ t : List Int, PyData.depthAll (t.map .int) = 0
  | [] => by simp [PyData.depthAll]
  | x :: t => by
    rw [List.map_cons]
    simp [PyData.depthAll, dep_ints t, PyData.depth]
theorem dep_tiles : ∀ ts : List (List Int), PyData.depthAll (ts.map tileD) ≤ 1
  | [] => by simp [PyData.depthAll]
  | t :: ts => by
    rw [List.map_cons]
    have := dep_tiles ts
    simp only [PyData.depthAll, tileD, PyData.depth, dep_ints]
    omega
theorem sh_tiles (ts : List (List Int)) : SeqAt.shaped (.list (ts.map tileD)) = true := by
  unfold SeqAt.shaped
  have h := dep_tiles ts
  rw [Bool.and_eq_true]
  refine ⟨?_, decide_eq_true ?_⟩
  · simp only [PyData.canLay0, lay_tiles]
  · simp only [PyData.depth]
    omega
theorem sh_ints (t : List Int) : SeqAt.shaped (.list (t.map .int)) = true := by
  unfold SeqAt.shaped
  rw [Bool.and_eq_true]
  refine ⟨?_, decide_eq_true ?_⟩
  · simp only [PyData.canLay0, lay_ints]
  · simp only [PyData.depth, dep_ints]
    omega
theorem eqv_self {d : PyData} (h : SeqAt.shaped d = true) : PyData.eqv d d = true := SeqAt.eqv_refl d (SeqAt.canLay_of_shaped h)
end Mine

set_option Elab.async false
set_option linter.all false
set_option maxRecDepth 100000
set_option maxHeartbeats 4000000
namespace Mine
open PySem PySem.Spec PyProof.Rows L2 DL

local macro_rules | `(tactic| walk_at "e") => `(tactic| first
  | with_reducible exact ev_int
  | with_reducible exact ev_bl
  | with_reducible exact ev_str
  | with_reducible exact ev_non
  | ((with_reducible apply ev_var); rfl)
  | with_reducible exact ea_nil
  | with_reducible exact et_nil
  | with_reducible exact eo_no
  | with_reducible exact rv_addI
  | with_reducible exact rv_subI
  | with_reducible exact rv_ltI
  | with_reducible exact rv_leI
  | with_reducible exact rv_gtI
  | with_reducible exact rv_geI
  | with_reducible exact rv_eqI
  | with_reducible exact rv_neI
  | with_reducible exact rv_isB
  | with_reducible exact rv_notB
  | ((with_reducible apply rv_modI); first | assumption | omega | skip)
  | ((with_reducible apply rv_divI); first | assumption | (constructor <;> omega) | skip)
  | with_reducible exact ru_I
  | with_reducible exact rc_abs
  | with_reducible exact rc_int
  | with_reducible exact rs_tup
  | with_reducible exact Tru.b _
  | with_reducible exact Tru.n
  | with_reducible exact DL.Seq.t _
  | with_reducible exact DL.Seq.l (Its.d _)
  | with_reducible exact Its.d _
  | with_reducible exact Sees.d _
  | ((with_reducible apply DL.Seq.l); (with_reducible apply DL.Its.p); assumption)
  | ((with_reducible apply DL.Its.p); assumption)
  | (with_reducible apply ev_op) <;> walk_at "e"
  | (with_reducible apply ev_un) <;> walk_at "e"
  | (with_reducible apply ea_cons) <;> walk_at "e"
  | (with_reducible apply ev_cb) <;> walk_at "e"
  | (with_reducible apply et_test) <;> walk_at "e"
  | (with_reducible apply et_not) <;> walk_at "e"
  | (with_reducible apply et_tr) <;> walk_at "e"
  | (with_reducible apply ev_notT) <;> walk_at "e"
  | (with_reducible apply eo_some) <;> walk_at "e"
  | ((with_reducible apply rv_ix) <;> first | ((with_reducible show atW _ _ = some _); rfl) | walk_at "e")
  | with_reducible exact rc_isint
  | with_reducible exact rc_isbool
  | with_reducible exact rc_isstr
  | with_reducible exact rc_istuple
  | with_reducible exact rc_islist
  | (with_reducible apply rc_len) <;> walk_at "e"
  | (with_reducible apply ev_leLe) <;> walk_at "e"
  | (with_reducible apply ev_fld) <;> walk_at "e"
  | (with_reducible apply ev_sl) <;> walk_at "e"
  | with_reducible exact ev_con T.v_BLANK
  | with_reducible exact ev_raw
  | with_reducible assumption
  | with_reducible rfl
  | skip)

/-! ### what holds between the law's turns -/
structure J (C : Addr) (ns : List Int) (many i : Nat) (μ : Mu) (st p s l q r : Nat) (k big : Int) (sure : List (List Int)) (late : List (Int × List Int)) : Prop where
  hst : μ[st]? = some (stW ns k big)
  hk : 0 ≤ k
  ht : TilesAt C μ p s l sure late true
  hq : μ[q]? = some (.lst (sureW sure))
  hr : μ[r]? = some (.lst (lateW late))
  nd : st ≠ s ∧ st ≠ l ∧ st ≠ q ∧ st ≠ r ∧ s ≠ q ∧ s ≠ r ∧ l ≠ q ∧ l ≠ r ∧ q ≠ r
  n1 : sure.length = many
  hin : In many late
  h48 : ∀ q, q ∈ sure → q.length = 48
  l48 : ∀ q, q ∈ late → q.2.length = 48
  zl : late.length ≤ i
theorem ne_kind {μ : Mu} {m n : Nat} {xs : List W} {C : Addr} {fs : List (Str × W)} (h : μ[m]? = some (.lst xs)) (h' : μ[n]? = some (.ins C fs)) : m ≠ n := fun e => by
  rw [e, h'] at h
  cases h
section
variable {C : Addr} {ns : List Int} {many i : Nat} {μ μ' : Mu} {st p s l q r : Nat} {k big : Int} {sure : List (List Int)} {late : List (Int × List Int)}
theorem J.keep (j : J C ns many i μ st p s l q r k big sure late) (h : ∀ (m : Nat) (c : Cell), μ[m]? = some c → μ'[m]? = some c) : J C ns many i μ' st p s l q r k big sure late :=
  ⟨h _ _ j.hst, j.hk, ⟨h _ _ j.ht.ob, h _ _ j.ht.hs, h _ _ j.ht.hl, j.ht.zs, j.ht.zl, j.ht.ne⟩, h _ _ j.hq, h _ _ j.hr, j.nd, j.n1, j.hin, j.h48, j.l48, j.zl⟩
theorem J.sset (j : J C ns many i μ st p s l q r k big sure late) {k' big' : Int} (h : 0 ≤ k') : J C ns many i (μ.set st (stW ns k' big')) st p s l q r k' big' sure late := by
  obtain ⟨n1, n2, n3, n4, n5, n6, n7, n8, n9⟩ := j.nd
  have np : st ≠ p := ne_kind (by have := j.hst; unfold stW at this; exact this) j.ht.ob
  exact ⟨gS j.hst, h, ⟨gs np j.ht.ob, gs n1 j.ht.hs, gs n2 j.ht.hl, j.ht.zs, j.ht.zl, j.ht.ne⟩, gs n3 j.hq, gs n4 j.hr, j.nd, j.n1, j.hin, j.h48, j.l48, j.zl⟩
theorem J.take (j : J C ns many i μ st p s l q r k big sure late) (lim : Int) : J C ns many i (takeM ns k big lim st μ) st p s l q r (takeK k big) (takeB ns k big lim) sure late := j.sset (takeK_nn _ _ j.hk)
end
/-- behind a turn's first part -/
def J2 (C : Addr) (ns : List Int) (many i st p q c : Nat) (o : SO) : Prop := ∃ s l r k big sure late x6 x7 x9 x10 x11 x12 x13 x14 μ s' l',
  o = .nx [some (.d (scr ns)), some (.p st), some (.i (many : Nat)), some (.p p), some (.p q), some (.p r), x6, x7, some (.p c), x9, x10, x11, x12, x13, x14] μ ∧
  J C ns many (i + 1) μ st p s l q r k big sure late ∧ μ[c]? = some (.ins C (tf s' l' true))
section
variable {K : PySem.W.Frag} {mg : Str → Option Value} {a : Ad} {X : WX} {E' : L2.St → XK} {ns : List Int} {many i : Nat} {μ : Mu} {st p s l q r c s' l' : Nat} {k big : Int} {sure : List (List Int)} {late : List (Int × List Int)} {x6 x7 x9 x10 x11 x12 x13 x14 : Option W}
theorem branchA (T : Txt K mg a) (j : J a.C_Tiles ns many i μ st p s l q r k big sure late) (hm : 1 ≤ many ∧ many ≤ 8) (hi : i < 10) (hc : μ[c]? = some (.ins a.C_Tiles (tf s' l' true))) :
    St K X (tSeq (tAsg (tTup (tCons (tCallS (spOf K 2 phTake) E' (tCons (tVar 1) (tCons (tVar 2) tNil))) (tCons (tCallS (spOf K 1 phData) E' (tCons (tVar 1) tNil)) tNil))) (gName 12))
      (tSeq (tDrop (tMethU a.C_Tiles "put" (spOf K 3 (phPut a)) E' (tVar 3) (tCons (tOp (rIx K) (tVar 12) (tC (V.int 0))) (tCons (tOp (rIx K) (tVar 12) (tC (V.int 1))) tNil))))
        (tDrop (tBM K "list" rAppend (tVar 5) (tCons (tVar 12) tNil)))))
      [some (.d (scr ns)), some (.p st), some (.i (many : Nat)), some (.p p), some (.p q), some (.p r), x6, x7, some (.p c), x9, x10, x11, x12, x13, x14] μ (J2 a.C_Tiles ns many i st p q c) := by
  have j1 := j.take (many : Nat)
  have f1 := takeF_range ns k big (many : Nat) (by omega)
  have j2 := j1.take 250
  generalize hf1 : takeF ns k big (many : Nat) = v1 at f1
  generalize hf2 : takeF ns (takeK k big) (takeB ns k big (many : Nat)) 250 = v2
  have hcst : ∀ {μ' : Mu} {k' b' : Int}, μ'[c]? = some (.ins a.C_Tiles (tf s' l' true)) → μ'[st]? = some (stW ns k' b') → st ≠ c := fun h1 h2 => ne_kind (by unfold stW at h2; exact h2) h1
  have hc1 : (takeM ns k big (many : Nat) st μ)[c]? = some (.ins a.C_Tiles (tf s' l' true)) := gs (hcst hc j.hst) hc
  have hc2 : (takeM ns (takeK k big) (takeB ns k big (many : Nat)) 250 st (takeM ns k big (many : Nat) st μ))[c]? = some (.ins a.C_Tiles (tf s' l' true)) := gs (hcst hc1 j1.hst) hc1
  refine st_seq (st_set (w := .d (pairD (v1, dataT v2))) (μ1 := takeM ns (takeK k big) (takeB ns k big (many : Nat)) 250 st (takeM ns k big (many : Nat) st μ)) ?_ ?_)
  · refine ev_tup (xs := [.int v1, tileD (dataT v2)]) (ea_cons (ev_call (ws := [.p st, .i (many : Nat)]) (μ1 := μ) (by walk_at "e") rfl ⟨st, ns, k, big, (many : Nat), rfl, j.hst, j.hk, by omega, by omega, by rw [hf1]⟩) (ea_cons (ev_call (ws := [.p st]) (ea_cons (ev_var rfl) ea_nil) rfl ⟨st, ns, _, _, rfl, j1.hst, j1.hk, by rw [hf2]⟩) ea_nil)) rfl (by show 2 ≤ sizeLine; decide)
  show St _ _ _ _ _ _
  dsimp only [List.set_cons_zero, List.set_cons_succ]
  generalize takeM ns (takeK k big) (takeB ns k big (many : Nat)) 250 st (takeM ns k big (many : Nat) st μ) = μ2 at j2 hc2 ⊢
  have hz := j2.ht.zl
  refine st_seq (st_drop (w := .d .none) (μ1 := putM l late (v1, dataT v2) μ2) (ev_meth (n := 3) (ws := [.i v1, .d (tileD (dataT v2))]) (ev_var rfl) j2.ht.ob (tf_no _ _ _ (by decide +kernel) (by decide +kernel) (by decide +kernel)) (ea_cons (ev_op (ev_var rfl) ev_int (rv_ix (.t [.int v1, tileD (dataT v2)]) rfl)) (ea_cons (ev_op (ev_var rfl) ev_int (rv_ix (.t [.int v1, tileD (dataT v2)]) rfl)) ea_nil)) rfl
    ⟨p, s, l, sure, late, true, _, _, rfl, j2.ht, ?_, (fun h => nomatch h), (fun _ h => ?_), (fun _ _ h => ?_), (fun i' t' _ e1 _ _ e2 _ _ => ?_)⟩) ?_)
  · intro ys e
    cases e
    rw [List.length_map, dataT_len]
    decide
  · have : isNum (.int v1) 0 ((sure.length : Int) - 1) = true := by
      have := j2.n1
      simp [isNum]
      omega
    rw [this] at h
    cases h
  · rcases h with h | h
    · rw [dataT_bytes] at h
      cases h
    · exact absurd (show lenD (tileD (dataT v2)) = 48 by show ((List.map PyData.int (dataT v2)).length : Int) = 48; rw [List.length_map, dataT_len]; rfl) h
  · cases e1
    have e3 : dataT v2 = t' := by
      have inj : ∀ x y : List Int, x.map PyData.int = y.map PyData.int → x = y := by
        intro x
        induction x with
        | nil => intro y h; cases y with | nil => rfl | cons _ _ => cases h
        | cons z zs ih =>
          intro y h
          cases y with
          | nil => cases h
          | cons u us =>
            simp only [List.map_cons, List.cons.injEq, PyData.int.injEq] at h
            rw [h.1, ih us h.2]
      unfold tileD at e2
      injection e2 with e2
      exact inj _ _ e2
    rw [← e3]
  show St _ _ _ _ _ _
  obtain ⟨n1, n2, n3, n4, n5, n6, n7, n8, n9⟩ := j2.nd
  have nlp : l ≠ p := ne_kind j2.ht.hl j2.ht.ob
  have nrp : r ≠ p := ne_kind j2.hr j2.ht.ob
  have nlc : l ≠ c := ne_kind j2.ht.hl hc2
  have nrc : r ≠ c := ne_kind j2.hr hc2
  have hr3 : (putM l late (v1, dataT v2) μ2)[r]? = some (.lst (lateW late)) := gs n8 j2.hr
  refine st_drop (w := .d .none) (ev_bm (tyv_cell hr3) (ev_var rfl) (ea_cons (ev_var rfl) ea_nil) (rm_append hr3 (by rw [lateW_len]; exact Nat.lt_of_le_of_lt hz (by decide)))) ?_
  have el : lateW late ++ [W.d (pairD (v1, dataT v2))] = lateW (late ++ [(v1, dataT v2)]) := by
    unfold lateW
    rw [List.map_append, List.map_append]
    rfl
  rw [el]
  have hzi := j2.zl
  refine ⟨s, l, r, _, _, sure, late ++ [(v1, dataT v2)], _, _, _, _, _, _, _, _, _, s', l', rfl, ⟨gs (by omega) (gs (by omega) j2.hst), j2.hk, ⟨gs (by omega) (gs (by omega) j2.ht.ob), gs (by omega) (gs (Ne.symm j2.ht.ne) j2.ht.hs), gs (by omega) (gS j2.ht.hl), j2.ht.zs, by rw [List.length_append]; show late.length + 1 ≤ 1000; omega, j2.ht.ne⟩, gs (by omega) (gs (by omega) j2.hq), gS hr3, j2.nd, j2.n1, ?_, j2.h48, ?_, by rw [List.length_append]; show late.length + 1 ≤ i + 1; omega⟩, gs nrc (gs nlc hc2)⟩
  · intro x hx
    rcases List.mem_append.mp hx with hx | hx
    · exact j2.hin x hx
    · rw [List.mem_singleton.mp hx]
      exact f1
  · intro x hx
    rcases List.mem_append.mp hx with hx | hx
    · exact j2.l48 x hx
    · rw [List.mem_singleton.mp hx]
      exact dataT_len v2
end
end Mine

set_option Elab.async false
set_option linter.all false
set_option maxRecDepth 100000
set_option maxHeartbeats 4000000
namespace Mine
open PySem PySem.Spec PyProof.Rows L2 DL

local macro_rules | `(tactic| walk_at "e") => `(tactic| first
  | with_reducible exact ev_int
  | with_reducible exact ev_bl
  | with_reducible exact ev_str
  | with_reducible exact ev_non
  | ((with_reducible apply ev_var); rfl)
  | with_reducible exact ea_nil
  | with_reducible exact et_nil
  | with_reducible exact eo_no
  | with_reducible exact rv_addI
  | with_reducible exact rv_subI
  | with_reducible exact rv_ltI
  | with_reducible exact rv_leI
  | with_reducible exact rv_gtI
  | with_reducible exact rv_geI
  | with_reducible exact rv_eqI
  | with_reducible exact rv_neI
  | with_reducible exact rv_isB
  | with_reducible exact rv_notB
  | ((with_reducible apply rv_modI); first | assumption | omega | skip)
  | ((with_reducible apply rv_divI); first | assumption | (constructor <;> omega) | skip)
  | with_reducible exact ru_I
  | with_reducible exact rc_abs
  | with_reducible exact rc_int
  | with_reducible exact rs_tup
  | with_reducible exact Tru.b _
  | with_reducible exact Tru.n
  | with_reducible exact DL.Seq.t _
  | with_reducible exact DL.Seq.l (Its.d _)
  | with_reducible exact Its.d _
  | with_reducible exact Sees.d _
  | ((with_reducible apply DL.Seq.l); (with_reducible apply DL.Its.p); assumption)
  | ((with_reducible apply DL.Its.p); assumption)
  | (with_reducible apply ev_op) <;> walk_at "e"
  | (with_reducible apply ev_un) <;> walk_at "e"
  | (with_reducible apply ea_cons) <;> walk_at "e"
  | (with_reducible apply ev_cb) <;> walk_at "e"
  | (with_reducible apply et_test) <;> walk_at "e"
  | (with_reducible apply et_not) <;> walk_at "e"
  | (with_reducible apply et_tr) <;> walk_at "e"
  | (with_reducible apply ev_notT) <;> walk_at "e"
  | (with_reducible apply eo_some) <;> walk_at "e"
  | ((with_reducible apply rv_ix) <;> first | ((with_reducible show atW _ _ = some _); rfl) | walk_at "e")
  | with_reducible exact rc_isint
  | with_reducible exact rc_isbool
  | with_reducible exact rc_isstr
  | with_reducible exact rc_istuple
  | with_reducible exact rc_islist
  | (with_reducible apply rc_len) <;> walk_at "e"
  | (with_reducible apply ev_leLe) <;> walk_at "e"
  | (with_reducible apply ev_fld) <;> walk_at "e"
  | (with_reducible apply ev_sl) <;> walk_at "e"
  | with_reducible exact ev_con T.v_BLANK
  | with_reducible exact ev_raw
  | with_reducible assumption
  | with_reducible rfl
  | skip)

theorem lateW_nil : lateW [] = [] := rfl
theorem applyL_48 : ∀ (late : List (Int × List Int)) (sure : List (List Int)), (∀ q, q ∈ sure → q.length = 48) → (∀ q, q ∈ late → q.2.length = 48) → ∀ q, q ∈ applyL sure late → q.length = 48
  | [], sure, h, _ => h
  | x :: r, sure, h, h2 => by
    show ∀ q, q ∈ applyL (sure.set x.1.toNat x.2) r → q.length = 48
    refine applyL_48 r _ (fun q hq => ?_) fun q hq => h2 q (List.mem_cons_of_mem _ hq)
    rcases mem_set' hq with hq | rfl
    · exact h q hq
    · exact h2 x List.mem_cons_self
section
variable {K : PySem.W.Frag} {mg : Str → Option Value} {a : Ad} {X : WX} {E' : L2.St → XK} {ns : List Int} {many i : Nat} {μ : Mu} {st p s l q r c s' l' : Nat} {k big : Int} {sure : List (List Int)} {late : List (Int × List Int)} {x6 x7 x9 x10 x11 x12 x13 x14 : Option W}
/-- the law's own stores: one by one -/
theorem own_loop {O : SO → Prop} (hrr : μ[r]? = some (.lst (lateW late))) (hin : In many late) {n : Nat} {base : List (List Int)} {δ0 δ1 : Dl} (hbase : base.length = many) (hn : μ[n]? = some (.lst (sureW base))) (hnr : n ≠ r) {tn : TE} (htn : ∀ x y μ', Ev K tn (δ0 ++ [x, y] ++ δ1) μ' (.p n) μ') (h5 : ∀ x y, (δ0 ++ [x, y] ++ δ1)[5]? = some (some (.p r))) (h0 : δ0.length = 10) (x10 x11 : Option W)
    (hO : ∀ x y, O (.nx (δ0 ++ [x, y] ++ δ1) (μ.set n (.lst (sureW (applyL base late)))))) :
    St K X (tFor (iSeq K (tVar 5)) (gTup K 2 (gCons (gName 10) (gCons (gName 11) gNil))) (tAsg (tVar 11) (gSub tn (tVar 10) rSetL))) (δ0 ++ [x10, x11] ++ δ1) μ O := by
  refine st_for (ei_seqL (ev_var (h5 _ _)) (.p hrr)) (fun i δ μi => ∃ x y, δ = δ0 ++ [x, y] ++ δ1 ∧ μi = μ.set n (.lst (sureW (applyL base (late.take i))))) ⟨x10, x11, rfl, ?_⟩ ?_ ?_ ?_
  · rw [List.take_zero]
    exact (set_same hn).symm
  · rintro i δ μi ⟨x, y, rfl, rfl⟩
    exact gs hnr hrr
  · rintro i w δi μi hw ⟨x, y, rfl, rfl⟩
    obtain ⟨e, he, rfl⟩ := lateW_get hw
    have hr := hin e (List.mem_of_getElem? he)
    have s1 : (δ0 ++ [x, y] ++ δ1).set 10 (some (W.i e.1)) = δ0 ++ [some (W.i e.1), y] ++ δ1 := by
      rw [List.append_assoc, List.set_append_right _ _ (by omega), h0]
      simp
    have s2 : (δ0 ++ [some (W.i e.1), y] ++ δ1).set 11 (some (W.d (tileD e.2))) = δ0 ++ [some (W.i e.1), some (W.d (tileD e.2))] ++ δ1 := by
      rw [List.append_assoc, List.set_append_right _ _ (by omega), h0]
      simp
    have a1 : EvG K (gName 10) (W.i e.1) (δ0 ++ [x, y] ++ δ1) (μ.set n (.lst (sureW (applyL base (late.take i))))) (δ0 ++ [some (W.i e.1), y] ++ δ1) (μ.set n (.lst (sureW (applyL base (late.take i))))) := by
      rw [← s1]
      exact eg_name
    have a2 : EvG K (gName 11) (W.d (tileD e.2)) (δ0 ++ [some (W.i e.1), y] ++ δ1) (μ.set n (.lst (sureW (applyL base (late.take i))))) (δ0 ++ [some (W.i e.1), some (W.d (tileD e.2))] ++ δ1) (μ.set n (.lst (sureW (applyL base (late.take i))))) := by
      rw [← s2]
      exact eg_name
    refine ⟨δ0 ++ [some (W.i e.1), some (W.d (tileD e.2))] ++ δ1, _, eg_tup (xs := [.int e.1, tileD e.2]) rfl (egs_cons a1 (egs_cons a2 egs_nil)), ?_⟩
    have g10 : (δ0 ++ [some (W.i e.1), some (W.d (tileD e.2))] ++ δ1)[10]? = some (some (W.i e.1)) := by
      rw [List.append_assoc, List.getElem?_append_right (by omega), h0]
      rfl
    have g11 : (δ0 ++ [some (W.i e.1), some (W.d (tileD e.2))] ++ δ1)[11]? = some (some (W.d (tileD e.2))) := by
      rw [List.append_assoc, List.getElem?_append_right (by omega), h0]
      rfl
    refine st_asg (ev_var g11) (eg_subL (n := n) (i := e.1) (xs := sureW (applyL base (late.take i))) (htn _ _ _) (ev_var g10) (gS hn) (ixN_nat hr.1 ?_)) ?_
    · rw [sureW_len, applyL_len, hbase]
      exact hr.2
    · refine ⟨_, _, rfl, ?_⟩
      rw [List.set_set, sureW_set, applyL_more he]
  · rintro δi μi ⟨x, y, rfl, rfl⟩
    rw [lateW_len, List.take_length]
    exact hO x y
theorem settle_J (j : J a.C_Tiles ns many i μ st p s l q r k big sure late) (hc : μ[c]? = some (.ins a.C_Tiles (tf s' l' true))) (ncp : c ≠ p) :
    TilesAt a.C_Tiles (settleM a.C_Tiles p s l sure late μ) p s μ.length (applyL sure late) [] true ∧ (settleM a.C_Tiles p s l sure late μ)[st]? = some (stW ns k big) ∧ (settleM a.C_Tiles p s l sure late μ)[q]? = some (.lst (sureW sure)) ∧
    (settleM a.C_Tiles p s l sure late μ)[r]? = some (.lst (lateW late)) ∧ (settleM a.C_Tiles p s l sure late μ)[c]? = some (.ins a.C_Tiles (tf s' l' true)) ∧ (settleM a.C_Tiles p s l sure late μ).length = μ.length + 1 := by
  obtain ⟨n1, n2, n3, n4, n5, n6, n7, n8, n9⟩ := j.nd
  have nsp : s ≠ p := ne_kind j.ht.hs j.ht.ob
  have nstp : st ≠ p := ne_kind (by have := j.hst; unfold stW at this; exact this) j.ht.ob
  have nqp : q ≠ p := ne_kind j.hq j.ht.ob
  have nrp : r ≠ p := ne_kind j.hr j.ht.ob
  have nsc : s ≠ c := ne_kind j.ht.hs hc
  have lp := gl j.ht.ob
  have el : (μ.set s (Cell.lst (sureW (applyL sure late)))).length = μ.length := List.length_set
  unfold settleM
  simp only [el]
  refine ⟨⟨gS (ga (gs nsp j.ht.ob)), gs (Ne.symm nsp) (ga (gS j.ht.hs)), ?_, by rw [applyL_len]; exact j.ht.zs, by simp, ?_⟩, gs (Ne.symm nstp) (ga (gs (Ne.symm n1) j.hst)), gs (Ne.symm nqp) (ga (gs n5 j.hq)), gs (Ne.symm nrp) (ga (gs n6 j.hr)), gs (Ne.symm ncp) (ga (gs nsc hc)), ?_⟩
  · refine gs (by omega) ?_
    have := gL (μ := μ.set s (Cell.lst (sureW (applyL sure late)))) (c := .lst [])
    rw [el] at this
    exact this
  · have := gl j.ht.hs
    omega
  · rw [List.length_set, List.length_append, el]
    rfl
theorem branchB (T : Txt K mg a) (j : J a.C_Tiles ns many i μ st p s l q r k big sure late) (hc : μ[c]? = some (.ins a.C_Tiles (tf s' l' true))) (ncp : c ≠ p) :
    St K X (tSeq (tIfS (tTest (tOp (rNeA K) (tMethU a.C_Tiles "settle" (spOf K 1 (phSettle a)) E' (tVar 3) tNil) (tCB (rLenU K) (tCons (tVar 5) tNil)))) (tRet (tC (V.bl false))) tNext)
      (tSeq (tFor (iSeq K (tVar 5)) (gTup K 2 (gCons (gName 10) (gCons (gName 11) gNil))) (tAsg (tVar 11) (gSub (tVar 4) (tVar 10) rSetL))) (tAsg (tLst tNil) (gName 5))))
      [some (.d (scr ns)), some (.p st), some (.i (many : Nat)), some (.p p), some (.p q), some (.p r), x6, x7, some (.p c), x9, x10, x11, x12, x13, x14] μ (J2 a.C_Tiles ns many i st p q c) := by
  obtain ⟨t1, hst1, hq1, hr1, hc1, len1⟩ := settle_J j hc ncp
  have hin : In sure.length late := by rw [j.n1]; exact j.hin
  refine st_seq (st_ifF (μ1 := settleM a.C_Tiles p s l sure late μ) (et_is (et_test (ev_op (ev_meth (n := 1) (ws := []) (w := .i (late.length : Nat)) (ev_var rfl) j.ht.ob (tf_no _ _ _ (by decide +kernel) (by decide +kernel) (by decide +kernel)) ea_nil rfl ⟨p, s, l, sure, late, true, rfl, j.ht, hin, (fun h => nomatch h), (fun _ => rfl)⟩) (ev_is (y := .i (late.length : Nat)) (ev_cb (ea_cons (ev_var rfl) ea_nil) (rc_len (.l (.p hr1)))) (by rw [lateW_len])) rv_neI)) (by simp)) ?_)
  refine st_next ?_
  show St _ _ _ _ _ _
  obtain ⟨n1, n2, n3, n4, n5, n6, n7, n8, n9⟩ := j.nd
  have lst_ := gl j.hst
  have ls := gl j.ht.hs
  have lp := gl j.ht.ob
  have lq := gl j.hq
  have lr := gl j.hr
  generalize settleM a.C_Tiles p s l sure late μ = μ1 at t1 hst1 hq1 hr1 hc1 len1 ⊢
  refine st_seq (own_loop (δ0 := [some (.d (scr ns)), some (.p st), some (.i (many : Nat)), some (.p p), some (.p q), some (.p r), x6, x7, some (.p c), x9]) (δ1 := [x12, x13, x14]) hr1 j.hin j.n1 hq1 n9 (fun _ _ _ => ev_var rfl) (fun _ _ => rfl) rfl x10 x11 fun x y => ?_)
  show St _ _ _ _ _ _
  dsimp only [List.cons_append, List.nil_append]
  refine st_asg (ev_lstP ea_nil (by decide)) eg_name ?_
  dsimp only [List.set_cons_zero, List.set_cons_succ]
  have nqp : q ≠ p := ne_kind hq1 t1.ob
  have nqc : q ≠ c := ne_kind hq1 hc1
  have el : (μ1.set q (Cell.lst (sureW (applyL sure late)))).length = μ1.length := List.length_set
  refine ⟨s, μ.length, _, k, big, applyL sure late, [], _, _, _, _, _, _, _, _, _, s', l', rfl, ⟨ga (gs (Ne.symm n3) hst1), j.hk, ⟨ga (gs nqp t1.ob), ga (gs (Ne.symm n5) t1.hs), ga (gs (by omega) t1.hl), t1.zs, by simp, t1.ne⟩, ga (gS hq1), ?_, ?_, by rw [applyL_len]; exact j.n1, (fun x hx => nomatch hx), applyL_48 late sure j.h48 j.l48, (fun x hx => nomatch hx), by simp⟩, ga (gs nqc hc1)⟩
  · exact gL
  · rw [el]
    omega
end
end Mine

set_option Elab.async false
set_option linter.all false
set_option maxRecDepth 100000
set_option maxHeartbeats 4000000
namespace Mine
open PySem PySem.Spec PyProof.Rows L2 DL

local macro_rules | `(tactic| walk_at "e") => `(tactic| first
  | with_reducible exact ev_int
  | with_reducible exact ev_bl
  | with_reducible exact ev_str
  | with_reducible exact ev_non
  | ((with_reducible apply ev_var); rfl)
  | with_reducible exact ea_nil
  | with_reducible exact et_nil
  | with_reducible exact eo_no
  | with_reducible exact rv_addI
  | with_reducible exact rv_subI
  | with_reducible exact rv_ltI
  | with_reducible exact rv_leI
  | with_reducible exact rv_gtI
  | with_reducible exact rv_geI
  | with_reducible exact rv_eqI
  | with_reducible exact rv_neI
  | with_reducible exact rv_isB
  | with_reducible exact rv_notB
  | ((with_reducible apply rv_modI); first | assumption | omega | skip)
  | ((with_reducible apply rv_divI); first | assumption | (constructor <;> omega) | skip)
  | with_reducible exact ru_I
  | with_reducible exact rc_abs
  | with_reducible exact rc_int
  | with_reducible exact rs_tup
  | with_reducible exact Tru.b _
  | with_reducible exact Tru.n
  | with_reducible exact DL.Seq.t _
  | with_reducible exact DL.Seq.l (Its.d _)
  | with_reducible exact Its.d _
  | with_reducible exact Sees.d _
  | ((with_reducible apply DL.Seq.l); (with_reducible apply DL.Its.p); assumption)
  | ((with_reducible apply DL.Its.p); assumption)
  | (with_reducible apply ev_op) <;> walk_at "e"
  | (with_reducible apply ev_un) <;> walk_at "e"
  | (with_reducible apply ea_cons) <;> walk_at "e"
  | (with_reducible apply ev_cb) <;> walk_at "e"
  | (with_reducible apply et_test) <;> walk_at "e"
  | (with_reducible apply et_not) <;> walk_at "e"
  | (with_reducible apply et_tr) <;> walk_at "e"
  | (with_reducible apply ev_notT) <;> walk_at "e"
  | (with_reducible apply eo_some) <;> walk_at "e"
  | ((with_reducible apply rv_ix) <;> first | ((with_reducible show atW _ _ = some _); rfl) | walk_at "e")
  | with_reducible exact rc_isint
  | with_reducible exact rc_isbool
  | with_reducible exact rc_isstr
  | with_reducible exact rc_istuple
  | with_reducible exact rc_islist
  | (with_reducible apply rc_len) <;> walk_at "e"
  | (with_reducible apply ev_leLe) <;> walk_at "e"
  | (with_reducible apply ev_fld) <;> walk_at "e"
  | (with_reducible apply ev_sl) <;> walk_at "e"
  | with_reducible exact ev_con T.v_BLANK
  | with_reducible exact ev_raw
  | with_reducible assumption
  | with_reducible rfl
  | skip)

section
variable {K : PySem.W.Frag} {mg : Str → Option Value} {a : Ad} {X : WX} {E' : L2.St → XK} {ns : List Int} {many i : Nat} {μ : Mu} {st p s l q r c s' l' : Nat} {k big : Int} {sure : List (List Int)} {late : List (Int × List Int)} {x6 x7 x9 x10 x11 x12 x13 x14 : Option W}
theorem fail_J (ks : List Int) (j : J a.C_Tiles ns many i μ st p s l q r k big sure late) (hc : μ[c]? = some (.ins a.C_Tiles (tf s' l' true))) (ncp : c ≠ p) :
    TilesAt a.C_Tiles (failM a.C_Tiles p s l sure ks late μ) p s μ.length (failL sure ks late) [] false ∧ (failM a.C_Tiles p s l sure ks late μ)[st]? = some (stW ns k big) ∧ (failM a.C_Tiles p s l sure ks late μ)[q]? = some (.lst (sureW sure)) ∧
    (failM a.C_Tiles p s l sure ks late μ)[r]? = some (.lst (lateW late)) ∧ (failM a.C_Tiles p s l sure ks late μ)[c]? = some (.ins a.C_Tiles (tf s' l' true)) ∧ (failM a.C_Tiles p s l sure ks late μ).length = μ.length + 1 := by
  obtain ⟨n1, n2, n3, n4, n5, n6, n7, n8, n9⟩ := j.nd
  have nsp : s ≠ p := ne_kind j.ht.hs j.ht.ob
  have nstp : st ≠ p := ne_kind (by have := j.hst; unfold stW at this; exact this) j.ht.ob
  have nqp : q ≠ p := ne_kind j.hq j.ht.ob
  have nrp : r ≠ p := ne_kind j.hr j.ht.ob
  have nsc : s ≠ c := ne_kind j.ht.hs hc
  have lp := gl j.ht.ob
  have el : (μ.set s (Cell.lst (sureW (failL sure ks late)))).length = μ.length := List.length_set
  have fl : (failL sure ks late).length = sure.length := failF_len _ _
  unfold failM
  simp only [el]
  refine ⟨⟨gS (gS (ga (gs nsp j.ht.ob))), gs (Ne.symm nsp) (gs (Ne.symm nsp) (ga (gS j.ht.hs))), ?_, by rw [fl]; exact j.ht.zs, by simp, ?_⟩, gs (Ne.symm nstp) (gs (Ne.symm nstp) (ga (gs (Ne.symm n1) j.hst))), gs (Ne.symm nqp) (gs (Ne.symm nqp) (ga (gs n5 j.hq))), gs (Ne.symm nrp) (gs (Ne.symm nrp) (ga (gs n6 j.hr))), gs (Ne.symm ncp) (gs (Ne.symm ncp) (ga (gs nsc hc))), ?_⟩
  · refine gs (by omega) (gs (by omega) ?_)
    have := gL (μ := μ.set s (Cell.lst (sureW (failL sure ks late)))) (c := .lst [])
    rw [el] at this
    exact this
  · have := gl j.ht.hs
    omega
  · rw [List.length_set, List.length_set, List.length_append, el]
    rfl
theorem came_at {f g : Int} (h : 0 ≤ g ∧ g < 3) : atW ([PyData.int 0, .int 48, .int f].map W.d) g = some (.i (came1 f g)) := by
  have hc : g = 0 ∨ g = 1 ∨ g = 2 := by omega
  rcases hc with rfl | rfl | rfl <;> rfl
theorem came_ev (T : Txt K mg a) (j : J a.C_Tiles ns many i μ st p s l q r k big sure late) :
    Ev K (tLc (iSeq K (tVar 5)) (gName 12) tYes (tOp (rIx K) (tLst (tCons (tC (V.int 0)) (tCons (tC (V.int 48)) (tCons (tCallS (spOf K 2 phTake) E' (tCons (tVar 1) (tCons (tC (V.int 49)) tNil))) tNil)))) (tCallS (spOf K 2 phTake) E' (tCons (tVar 1) (tCons (tC (V.int 3)) tNil)))) [12])
      [some (.d (scr ns)), some (.p st), some (.i (many : Nat)), some (.p p), some (.p q), some (.p r), x6, x7, some (.p c), x9, x10, x11, x12, x13, x14] μ (.d (.list ((cameS ns k big late.length).1.map .int))) (μ.set st (stW ns (cameS ns k big late.length).2.1 (cameS ns k big late.length).2.2)) := by
  obtain ⟨n1, n2, n3, n4, n5, n6, n7, n8, n9⟩ := j.nd
  refine ev_lcD (ei_seqL (ev_var rfl) (.p j.hr)) mg_name (tg_name (by decide)) (by rw [lateW_len]; exact Nat.le_trans j.ht.zl (by decide)) (fun i μi acc => μi = μ.set st (stW ns (cameS ns k big i).2.1 (cameS ns k big i).2.2) ∧ acc = ((cameS ns k big i).1.map PyData.int).map W.d) ⟨?_, rfl⟩ ?_ ?_ ?_
  · exact (set_same j.hst).symm
  · rintro i μi acc ⟨rfl, rfl⟩
    exact gs n4 j.hr
  · rintro i w μi acc hw ⟨rfl, rfl⟩
    obtain ⟨h1, h2, h3⟩ := cameS_ok ns k big j.hk i
    have c1 : (μ.set st (stW ns (cameS ns k big i).2.1 (cameS ns k big i).2.2))[st]? = some (stW ns (cameS ns k big i).2.1 (cameS ns k big i).2.2) := gS j.hst
    have c2 : (takeM ns (cameS ns k big i).2.1 (cameS ns k big i).2.2 49 st (μ.set st (stW ns (cameS ns k big i).2.1 (cameS ns k big i).2.2)))[st]? = some (stW ns (takeK (cameS ns k big i).2.1 (cameS ns k big i).2.2) (takeB ns (cameS ns k big i).2.1 (cameS ns k big i).2.2 49)) := gS c1
    refine ⟨_, _, true, _, eg_name, et_nil, fun _ => ⟨_, _, ev_op (ev_lstD (xs := [.int 0, .int 48, .int (takeF ns (cameS ns k big i).2.1 (cameS ns k big i).2.2 49)]) (ea_cons ev_int (ea_cons ev_int (ea_cons (ev_call (ws := [.p st, .i 49]) (ea_cons (ev_var rfl) (ea_cons ev_int ea_nil)) rfl ⟨st, ns, _, _, 49, rfl, c1, h1, by decide, by decide, rfl⟩) ea_nil))) rfl (by show 3 ≤ sizeLine; decide))
      (ev_call (ws := [.p st, .i 3]) (ea_cons (ev_var rfl) (ea_cons ev_int ea_nil)) rfl ⟨st, ns, _, _, 3, rfl, c2, takeK_nn _ _ h1, by decide, by decide, rfl⟩) (rv_ix (.l (.d _)) (came_at (takeF_range _ _ _ _ (by decide)))), ?_, ?_⟩, fun h => nomatch h⟩
    · unfold takeM
      rw [List.set_set, List.set_set]
      rfl
    · show _ = ((_ ++ [_]).map PyData.int).map W.d
      rw [List.map_append, List.map_append]
      rfl
  · rintro μi acc ⟨rfl, rfl⟩
    rw [lateW_len]
    exact ⟨rfl, rfl⟩
theorem branchC (T : Txt K mg a) (j : J a.C_Tiles ns many i μ st p s l q r k big sure late) (hm : 1 ≤ many ∧ many ≤ 8) (hc : μ[c]? = some (.ins a.C_Tiles (tf s' l' true))) (ncp : c ≠ p) :
    St K X (tSeq (tAsg (tLc (iSeq K (tVar 5)) (gName 12) tYes (tOp (rIx K) (tLst (tCons (tC (V.int 0)) (tCons (tC (V.int 48)) (tCons (tCallS (spOf K 2 phTake) E' (tCons (tVar 1) (tCons (tC (V.int 49)) tNil))) tNil)))) (tCallS (spOf K 2 phTake) E' (tCons (tVar 1) (tCons (tC (V.int 3)) tNil)))) [12]) (gName 13))
      (tSeq (tDrop (tMethU a.C_Tiles "fail" (spOf K 2 (phFail a)) E' (tVar 3) (tCons (tCB (rLstU K) (tCons (tVar 13) tNil)) tNil)))
      (tSeq (tIfS (tNot (tTr K (tCallS (spOf K 1 (phOff a)) E' (tCons (tVar 3) tNil)))) (tRet (tC (V.bl false))) tNext)
      (tSeq (tDrop (tMethU a.C_Tiles "start" (spOf K 1 (phStart a)) E' (tVar 3) tNil))
      (tSeq (tFor (iRng1 (tCons (tCB (rLenU K) (tCons (tVar 5) tNil)) tNil)) (gName 14)
        (tSeq (tAsg (tOp (rIx K) (tVar 5) (tVar 14)) (gTup K 2 (gCons (gName 10) (gCons (gName 11) gNil))))
          (tAsg (tOp (rAddU K) (tSl (rSlU K) (tVar 11) tNoPart (tPart (tOp (rIx K) (tVar 13) (tVar 14)))) (tSl (rSlU K) (tOp (rIx K) (tVar 4) (tVar 10)) (tPart (tOp (rIx K) (tVar 13) (tVar 14))) tNoPart)) (gSub (tVar 4) (tVar 10) rSetL))))
      (tAsg (tLst tNil) (gName 5)))))))
      [some (.d (scr ns)), some (.p st), some (.i (many : Nat)), some (.p p), some (.p q), some (.p r), x6, x7, some (.p c), x9, x10, x11, x12, x13, x14] μ (J2 a.C_Tiles ns many i st p q c) := by
  obtain ⟨n1, n2, n3, n4, n5, n6, n7, n8, n9⟩ := j.nd
  refine st_seq (st_set (came_ev T j) ?_)
  show St _ _ _ _ _ _
  dsimp only [List.set_cons_zero, List.set_cons_succ]
  obtain ⟨h1, h2, h3⟩ := cameS_ok ns k big j.hk late.length
  have j1 := j.sset (k' := (cameS ns k big late.length).2.1) (big' := (cameS ns k big late.length).2.2) h1
  have hc1 : (μ.set st (stW ns (cameS ns k big late.length).2.1 (cameS ns k big late.length).2.2))[c]? = some (.ins a.C_Tiles (tf s' l' true)) := gs (ne_kind (by have := j.hst; unfold stW at this; exact this) hc) hc
  generalize (cameS ns k big late.length).2.1 = k1 at h1 j1 hc1 ⊢
  generalize (cameS ns k big late.length).2.2 = big1 at j1 hc1 ⊢
  generalize (cameS ns k big late.length).1 = ks at h2 h3 ⊢
  have ml : (μ.set st (stW ns k1 big1)).length = μ.length := List.length_set
  generalize μ.set st (stW ns k1 big1) = μ1 at j1 hc1 ml ⊢
  have hin : In sure.length late := by rw [j.n1]; exact j.hin
  obtain ⟨t2, hst2, hq2, hr2, hc2, len2⟩ := fail_J ks j1 hc1 ncp
  have hzl := j.ht.zl
  refine st_seq (st_drop (w := .d .none) (μ1 := failM a.C_Tiles p s l sure ks late μ1) (ev_meth (n := 2) (ws := [.d (.list (ks.map .int))]) (ev_var rfl) j1.ht.ob (tf_no _ _ _ (by decide +kernel) (by decide +kernel) (by decide +kernel)) (ea_cons (ev_cb (ea_cons (ev_var rfl) ea_nil) (rc_lstD (.l (.d _)))) ea_nil) rfl
    ⟨p, s, l, sure, late, true, _, ks.map .int, rfl, j1.ht, .l (.d _), hin, by rw [List.length_map, h2]; omega, j.h48, j.l48, (fun _ _ => ⟨ks, rfl, h3⟩), (fun h => nomatch h), (fun _ h => ?_), (fun ks' _ e _ _ => ?_)⟩) ?_)
  · rw [List.length_map, h2] at h
    exact absurd rfl h
  · have inj : ∀ x y : List Int, x.map PyData.int = y.map PyData.int → x = y := by
      intro x
      induction x with
      | nil => intro y h; cases y with | nil => rfl | cons _ _ => cases h
      | cons z zs ih =>
        intro y h
        cases y with
        | nil => cases h
        | cons u us =>
          simp only [List.map_cons, List.cons.injEq, PyData.int.injEq] at h
          rw [h.1, ih us h.2]
    rw [inj _ _ e]
  show St _ _ _ _ _ _
  generalize failM a.C_Tiles p s l sure ks late μ1 = μ2 at t2 hst2 hq2 hr2 hc2 len2 ⊢
  have hall : ∀ x, x ∈ ks.zip late → x.2.2.length = 48 ∧ 0 ≤ x.1 ∧ x.1 ≤ 48 ∧ 0 ≤ x.2.1 ∧ x.2.1 < (sure.length : Int) := fun x hx => by
    have m1 := (List.of_mem_zip hx).1
    have m2 := (List.of_mem_zip hx).2
    exact ⟨j.l48 _ m2, (h3 _ m1).1, (h3 _ m1).2, (hin _ m2).1, (hin _ m2).2⟩
  have f48 : ∀ x, x ∈ failL sure ks late → x.length = 48 := failF_48 j.h48 fun x hx => by
    obtain ⟨c1, c2, c3, c4, c5⟩ := hall x hx
    exact ⟨c1, c3, by omega⟩
  refine st_seq (st_ifF (μ1 := μ2) (et_not (et_tr (ev_call (ws := [.p p]) (ea_cons (ev_var rfl) ea_nil) rfl ⟨p, s, _, _, _, rfl, t2, (fun x hx => nomatch hx), f48, (fun x hx => nomatch hx), rfl⟩) (.b true))) (st_next ?_))
  show St _ _ _ _ _ _
  refine st_seq (st_drop (w := .d .none) (μ1 := μ2.set p (.ins a.C_Tiles (tf s μ1.length true))) (ev_meth (n := 1) (ws := []) (ev_var rfl) t2.ob (tf_no _ _ _ (by decide +kernel) (by decide +kernel) (by decide +kernel)) ea_nil rfl ⟨p, s, _, _, _, _, rfl, t2, rfl⟩) ?_)
  show St _ _ _ _ _ _
  have nsp : s ≠ p := ne_kind t2.hs t2.ob
  have nstp : st ≠ p := ne_kind (by have := hst2; unfold stW at this; exact this) t2.ob
  have nqp : q ≠ p := ne_kind hq2 t2.ob
  have nrp : r ≠ p := ne_kind hr2 t2.ob
  have nlp : μ1.length ≠ p := ne_kind t2.hl t2.ob
  have t3 : TilesAt a.C_Tiles (μ2.set p (.ins a.C_Tiles (tf s μ1.length true))) p s μ1.length (failL sure ks late) [] true := ⟨gS t2.ob, gs (Ne.symm nsp) t2.hs, gs (Ne.symm nlp) t2.hl, t2.zs, t2.zl, t2.ne⟩
  have hst3 := gs (d := .ins a.C_Tiles (tf s μ1.length true)) (Ne.symm nstp) hst2
  have hq3 := gs (d := .ins a.C_Tiles (tf s μ1.length true)) (Ne.symm nqp) hq2
  have hr3 := gs (d := .ins a.C_Tiles (tf s μ1.length true)) (Ne.symm nrp) hr2
  have hc3 := gs (d := .ins a.C_Tiles (tf s μ1.length true)) (Ne.symm ncp) hc2
  have len3 : (μ2.set p (.ins a.C_Tiles (tf s μ1.length true))).length = μ1.length + 1 := by rw [List.length_set]; exact len2
  generalize μ2.set p (.ins a.C_Tiles (tf s μ1.length true)) = μ3 at t3 hst3 hq3 hr3 hc3 len3 ⊢
  have hcl : ks.length = late.length := h2
  refine st_seq (st_for (ei_rng1 (j := (late.length : Nat)) (ea_cons (ev_is (ev_cb (ea_cons (ev_var rfl) ea_nil) (rc_len (.l (.p hr3)))) (by rw [lateW_len])) ea_nil) (by omega) (by omega))
    (fun i δ μi => ∃ x y z, δ = [some (.d (scr ns)), some (.p st), some (.i (many : Nat)), some (.p p), some (.p q), some (.p r), x6, x7, some (.p c), x9, x, y, x12, some (.d (.list (ks.map .int))), z] ∧ μi = μ3.set q (Cell.lst (sureW (((ks.zip late).take i).foldl failT sure)))) ⟨x10, x11, x14, rfl, ?_⟩ (fun _ _ _ _ => trivial) ?_ ?_)
  · rw [List.take_zero]
    exact (set_same hq3).symm
  · rintro i w δi μi hw ⟨x, y, z, rfl, rfl⟩
    obtain ⟨hi, rfl⟩ := range_get hw
    have hi' : i < late.length := by omega
    have hiz : i < (ks.zip late).length := by rw [List.length_zip]; omega
    obtain ⟨b1, b2, b3, b4, b5⟩ := hall _ (List.getElem_mem hiz)
    have hzi : (ks.zip late)[i]? = some ((ks.zip late)[i]) := List.getElem?_eq_getElem hiz
    generalize (ks.zip late)[i] = e at b1 b2 b3 b4 b5 hzi
    obtain ⟨z1, z2⟩ := List.getElem?_zip_eq_some.mp hzi
    refine ⟨_, _, eg_name, ?_⟩
    dsimp only [List.set_cons_zero, List.set_cons_succ]
    generalize hcur : ((ks.zip late).take i).foldl failT sure = cur
    have hcl2 : cur.length = sure.length := by rw [← hcur, failF_len]
    have hc48 : ∀ z, z ∈ cur → z.length = 48 := by
      rw [← hcur]
      refine failF_48 j.h48 fun z hz => ?_
      obtain ⟨c1, c2, c3, c4, c5⟩ := hall z (List.mem_of_mem_take hz)
      exact ⟨c1, c3, by omega⟩
    have hj : e.2.1.toNat < cur.length := by omega
    have hcell : (μ3.set q (Cell.lst (sureW cur)))[q]? = some (.lst (sureW cur)) := gS hq3
    have hrr := gs (d := Cell.lst (sureW cur)) n9 hr3
    have hki : atW ((ks.map PyData.int).map W.d) ((i : Nat) : Int) = some (.i e.1) := atW_nat (by omega) (by rw [Int.toNat_natCast, List.getElem?_map, List.getElem?_map, z1]; rfl)
    refine st_seq (st_asg (w := .d (pairD e.2)) (ev_op (ev_var rfl) (ev_var rfl) (rv_ix (.l (.p hrr)) (atW_nat (by omega) ?_))) (eg_tup (xs := [.int e.2.1, tileD e.2.2]) rfl (egs_cons eg_name (egs_cons eg_name egs_nil))) ?_)
    · rw [Int.toNat_natCast]
      unfold lateW
      rw [List.getElem?_map, List.getElem?_map, z2]
      rfl
    show St _ _ _ _ _ _
    dsimp only [List.set_cons_zero, List.set_cons_succ]
    refine st_asg (w := .d (tileD (e.2.2.take e.1.toNat ++ (cur.getD e.2.1.toNat []).drop e.1.toNat))) (ev_is (ev_op (ev_sl (x := .d (.tuple (e.2.2.map .int))) (ev_var rfl) eo_no (eo_some (ev_op (ev_var rfl) (ev_var rfl) (rv_ix (.l (.d _)) hki))) rs_tup) (ev_sl (x := .d (.tuple ((cur.getD e.2.1.toNat []).map .int))) (ev_op (ev_var rfl) (ev_var rfl) (rv_ix (.l (.p hcell)) (atW_nat b4 ?_))) (eo_some (ev_op (ev_var rfl) (ev_var rfl) (rv_ix (.l (.d _)) hki))) eo_no rs_tup) (rv_addT ?_)) ?_)
      (eg_subL (n := q) (i := e.2.1) (xs := sureW cur) (ev_var rfl) (ev_var rfl) hcell (ixN_nat b4 ?_)) ?_
    · unfold sureW
      rw [List.getElem?_map, List.getElem?_map, List.getElem?_eq_getElem hj, List.getD_eq_getElem?_getD, List.getElem?_eq_getElem hj]
      rfl
    · rw [cut_take b2, cut_drop b2, List.length_take, List.length_drop, List.length_map, List.length_map, b1, List.getD_eq_getElem?_getD, List.getElem?_eq_getElem hj]
      have := hc48 _ (List.getElem_mem hj)
      show min e.1.toNat 48 + (cur[e.2.1.toNat].length - e.1.toNat) ≤ sizeLine
      rw [this]
      exact Nat.le_trans (show _ ≤ 96 by omega) (by decide)
    · rw [cut_take b2, cut_drop b2, fail_tile e]
    · rw [sureW_len, hcl2]
      exact b5
    · refine ⟨_, _, _, rfl, ?_⟩
      rw [List.set_set, sureW_set, failF_more hzi, hcur]
      rfl
  · rintro δi μi ⟨x, y, z, rfl, rfl⟩
    rw [rangeW_len, Int.toNat_natCast]
    have ez : ((ks.zip late).take late.length).foldl failT sure = failL sure ks late := by
      unfold failL
      rw [List.take_of_length_le (by rw [List.length_zip]; omega)]
    rw [ez]
    show St _ _ _ _ _ _
    refine st_asg (ev_lstP ea_nil (by decide)) eg_name ?_
    dsimp only [List.set_cons_zero, List.set_cons_succ]
    have lst_ := gl j1.hst
    have ls := gl j1.ht.hs
    have lp := gl j1.ht.ob
    have lq := gl j1.hq
    have nqc : q ≠ c := ne_kind hq3 hc3
    have el : (μ3.set q (Cell.lst (sureW (failL sure ks late)))).length = μ3.length := List.length_set
    have fl : (failL sure ks late).length = sure.length := failF_len _ _
    refine ⟨s, μ1.length, _, k1, big1, failL sure ks late, [], _, _, _, _, _, _, _, _, _, s', l', rfl, ⟨ga (gs (Ne.symm n3) hst3), h1, ⟨ga (gs nqp t3.ob), ga (gs (Ne.symm n5) t3.hs), ga (gs (by omega) t3.hl), t3.zs, by simp, t3.ne⟩, ga (gS hq3), ?_, ?_, by rw [fl]; exact j.n1, (fun x hx => nomatch hx), f48, (fun x hx => nomatch hx), by simp⟩, ga (gs nqc hc3)⟩
    · exact gL
    · rw [el]
      omega
end
end Mine

set_option Elab.async false
set_option linter.all false
set_option maxRecDepth 100000
set_option maxHeartbeats 4000000
namespace Mine
open PySem PySem.Spec PyProof.Rows L2 DL

local macro_rules | `(tactic| walk_at "e") => `(tactic| first
  | with_reducible exact ev_int
  | with_reducible exact ev_bl
  | with_reducible exact ev_str
  | with_reducible exact ev_non
  | ((with_reducible apply ev_var); rfl)
  | with_reducible exact ea_nil
  | with_reducible exact et_nil
  | with_reducible exact eo_no
  | with_reducible exact rv_addI
  | with_reducible exact rv_subI
  | with_reducible exact rv_ltI
  | with_reducible exact rv_leI
  | with_reducible exact rv_gtI
  | with_reducible exact rv_geI
  | with_reducible exact rv_eqI
  | with_reducible exact rv_neI
  | with_reducible exact rv_isB
  | with_reducible exact rv_notB
  | ((with_reducible apply rv_modI); first | assumption | omega | skip)
  | ((with_reducible apply rv_divI); first | assumption | (constructor <;> omega) | skip)
  | with_reducible exact ru_I
  | with_reducible exact rc_abs
  | with_reducible exact rc_int
  | with_reducible exact rs_tup
  | with_reducible exact Tru.b _
  | with_reducible exact Tru.n
  | with_reducible exact DL.Seq.t _
  | with_reducible exact DL.Seq.l (Its.d _)
  | with_reducible exact Its.d _
  | with_reducible exact Sees.d _
  | ((with_reducible apply DL.Seq.l); (with_reducible apply DL.Its.p); assumption)
  | ((with_reducible apply DL.Its.p); assumption)
  | (with_reducible apply ev_op) <;> walk_at "e"
  | (with_reducible apply ev_un) <;> walk_at "e"
  | (with_reducible apply ea_cons) <;> walk_at "e"
  | (with_reducible apply ev_cb) <;> walk_at "e"
  | (with_reducible apply et_test) <;> walk_at "e"
  | (with_reducible apply et_not) <;> walk_at "e"
  | (with_reducible apply et_tr) <;> walk_at "e"
  | (with_reducible apply ev_notT) <;> walk_at "e"
  | (with_reducible apply eo_some) <;> walk_at "e"
  | ((with_reducible apply rv_ix) <;> first | ((with_reducible show atW _ _ = some _); rfl) | walk_at "e")
  | with_reducible exact rc_isint
  | with_reducible exact rc_isbool
  | with_reducible exact rc_isstr
  | with_reducible exact rc_istuple
  | with_reducible exact rc_islist
  | (with_reducible apply rc_len) <;> walk_at "e"
  | (with_reducible apply ev_leLe) <;> walk_at "e"
  | (with_reducible apply ev_fld) <;> walk_at "e"
  | (with_reducible apply ev_sl) <;> walk_at "e"
  | with_reducible exact ev_con T.v_BLANK
  | with_reducible exact ev_raw
  | with_reducible assumption
  | with_reducible rfl
  | skip)

section
variable {K : PySem.W.Frag} {mg : Str → Option Value} {a : Ad} {X : WX} {E' : L2.St → XK} {ns : List Int} {many i : Nat} {μ : Mu} {st p s l q r c s' l' : Nat} {k big : Int} {sure : List (List Int)} {late : List (Int × List Int)} {x6 x7 x9 x10 x11 x12 x13 x14 : Option W}
/-- the invariant of the law's loop -/
def PJ (C : Addr) (ns : List Int) (many st p q : Nat) (i : Nat) (δ : Dl) (μ : Mu) : Prop := ∃ s l r k big sure late x6 x7 x8 x9 x10 x11 x12 x13 x14,
  δ = [some (.d (scr ns)), some (.p st), some (.i (many : Nat)), some (.p p), some (.p q), some (.p r), x6, x7, x8, x9, x10, x11, x12, x13, x14] ∧ J C ns many i μ st p s l q r k big sure late
theorem late_ev {Φ' : Option W} (T : Txt K mg a) (j : J a.C_Tiles ns many i μ st p s l q r k big sure late) {y6 y7 y8 y9 y10 y11 y12 y13 y14 : Option W} :
    EvT K (tTest (tOp (rNeA K) (tMethU a.C_Tiles "late" (spOf K 1 (phLate a)) E' (tVar 3) tNil) (tLc (iSeq K (tVar 5)) (gName 12) tYes (tOp (rIx K) (tVar 12) (tC (V.int 0))) [12])))
      [some (.d (scr ns)), some (.p st), some (.i (many : Nat)), some (.p p), some (.p q), some (.p r), y6, y7, y8, y9, y10, y11, y12, y13, y14] μ false μ := by
  refine et_is (et_test (ev_op (ev_meth (n := 1) (ws := []) (ev_var rfl) j.ht.ob (tf_no _ _ _ (by decide +kernel) (by decide +kernel) (by decide +kernel)) ea_nil rfl ⟨p, s, l, sure, late, true, rfl, j.ht, rfl⟩)
    (ev_is (y := .d (.list (late.map fun q => .int q.1))) (ev_lcM (f := fun w => match w with | .d (.tuple [x, _]) => x | _ => .none) (ei_seqL (ev_var rfl) (.p j.hr)) mg_name (tg_name (by decide)) (by rw [lateW_len]; exact Nat.le_trans j.ht.zl (by decide)) j.hr ?_) ?_) (rv_neX (.d _) (.d _) ?_ ?_))) ?_
  · intro n w hw
    obtain ⟨e, he, rfl⟩ := lateW_get hw
    exact ⟨_, eg_name, et_nil, ev_op (ev_var rfl) ev_int (rv_ix (.t [.int e.1, tileD e.2]) rfl)⟩
  · unfold lateW
    rw [List.map_map, List.map_map]
    rfl
  · have := sh_ints (late.map (·.1))
    rw [List.map_map] at this
    exact this
  · have := sh_ints (late.map (·.1))
    rw [List.map_map] at this
    exact this
  · have := sh_ints (late.map (·.1))
    rw [List.map_map] at this
    rw [show (late.map fun q => PyData.int q.1) = late.map (PyData.int ∘ (·.1)) from rfl, eqv_self this]
    rfl
theorem second (T : Txt K mg a) (j : J a.C_Tiles ns many i μ st p s l q r k big sure late) (hm : 1 ≤ many ∧ many ≤ 8) (hc : μ[c]? = some (.ins a.C_Tiles (tf s' l' true))) :
    St K X (tSeq (tAsg (tCB (rLstU K) (tCons (tVar 4) tNil)) (gName 9))
      (tSeq (tFor (iSeq K (tVar 5)) (gTup K 2 (gCons (gName 10) (gCons (gName 11) gNil))) (tAsg (tVar 11) (gSub (tVar 9) (tVar 10) rSetL)))
      (tSeq (tIfS (tOr (tTest (tOp (rNeA K) (tLc (iRng1 (tCons (tVar 2) tNil)) (gName 10) tYes (tMethU a.C_Tiles "get" (spOf K 2 (phGet a)) E' (tVar 3) (tCons (tVar 10) tNil)) [10]) (tVar 9)))
          (tOr (tTest (tOp (rNeA K) (tMethU a.C_Tiles "late" (spOf K 1 (phLate a)) E' (tVar 3) tNil) (tLc (iSeq K (tVar 5)) (gName 12) tYes (tOp (rIx K) (tVar 12) (tC (V.int 0))) [12])))
          (tOr (tTest (tOp (rNeA K) (tMethU a.C_Tiles "count" (spOf K 1 (phCount a)) E' (tVar 3) tNil) (tVar 2))) (tTest (tOp rNotB (tMethU a.C_Tiles "has_power" (spOf K 1 (phPower a)) E' (tVar 3) tNil) (tC (V.bl true))))))) (tRet (tC (V.bl false))) tNext)
        (tIfS (tOr (tNot (tTr K (tCallS (spOf K 1 (phRaised a)) E' (tCons (tVar 3) tNil))))
          (tOr (tTest (tOp (rNeA K) (tMethU a.C_Tiles "late" (spOf K 1 (phLate a)) E' (tVar 3) tNil) (tLc (iSeq K (tVar 5)) (gName 12) tYes (tOp (rIx K) (tVar 12) (tC (V.int 0))) [12]))) (tTest (tOp rNotB (tMethU a.C_Tiles "has_power" (spOf K 1 (phPower a)) E' (tVar 8) tNil) (tC (V.bl true)))))) (tRet (tC (V.bl false))) tNext))))
      [some (.d (scr ns)), some (.p st), some (.i (many : Nat)), some (.p p), some (.p q), some (.p r), x6, x7, some (.p c), x9, x10, x11, x12, x13, x14] μ (fun o => ∃ δ' μ', o = .nx δ' μ' ∧ PJ a.C_Tiles ns many st p q i δ' μ') := by
  have nr : ∀ {m : Str}, ¬ m = "_sure" → ¬ m = "_late" → ¬ m = "_power" → (tf s l true).lookup m = none := fun h1 h2 h3 => tf_no _ _ _ h1 h2 h3
  refine st_seq (st_set (ev_cb (ea_cons (ev_var rfl) ea_nil) (rc_lstP (.l (.p j.hq)))) ?_)
  show St _ _ _ _ _ _
  dsimp only [List.set_cons_zero, List.set_cons_succ]
  have lr := gl j.hr
  refine st_seq (own_loop (n := μ.length) (base := sure) (δ0 := [some (.d (scr ns)), some (.p st), some (.i (many : Nat)), some (.p p), some (.p q), some (.p r), x6, x7, some (.p c), some (.p μ.length)]) (δ1 := [x12, x13, x14]) (ga j.hr) j.hin j.n1 gL (by omega) (fun _ _ _ => ev_var rfl) (fun _ _ => rfl) rfl x10 x11 fun x y => ?_)
  show St _ _ _ _ _ _
  dsimp only [List.cons_append, List.nil_append]
  have j1 : J a.C_Tiles ns many i ((μ ++ [Cell.lst (sureW sure)]).set μ.length (Cell.lst (sureW (applyL sure late)))) st p s l q r k big sure late := j.keep fun m c h => gs (gN h) (ga h)
  have hnow : ((μ ++ [Cell.lst (sureW sure)]).set μ.length (Cell.lst (sureW (applyL sure late))))[μ.length]? = some (.lst (sureW (applyL sure late))) := gS gL
  have hc1 : ((μ ++ [Cell.lst (sureW sure)]).set μ.length (Cell.lst (sureW (applyL sure late))))[c]? = some (.ins a.C_Tiles (tf s' l' true)) := gs (gN hc) (ga hc)
  generalize (μ ++ [Cell.lst (sureW sure)]).set μ.length (Cell.lst (sureW (applyL sure late))) = μ1 at j1 hnow hc1 ⊢
  have hin : In sure.length late := by rw [j.n1]; exact j.hin
  have hn := j.n1
  refine st_seq (st_ifF (μ1 := μ1) ?_ (st_next ?_))
  · refine et_is (et_or0 (a := false) (b := false) ?_ fun _ => et_is (et_or0 (a := false) (b := false) (late_ev (Φ' := none) T j1) fun _ => et_is (et_or0 (a := false) (b := false) ?_ fun _ => ?_) rfl) rfl) rfl
    · have e : (sureW (applyL sure late)) = ((applyL sure late).map tileD).map W.d := rfl
      rw [e] at hnow
      refine et_is (et_test (ev_op (ev_is (y := .d (.list ((applyL sure late).map tileD))) (ev_lcM (f := fun w => match w with | .d (.int y) => tileD (getT sure late y) | _ => .none) (ei_rng1 (ea_cons (ev_var rfl) ea_nil) (by omega) (by omega)) mg_name (tg_name (by decide)) (by rw [rangeW_len]; exact Nat.le_trans (show _ ≤ 8 by omega) (by decide)) trivial ?_) ?_) (ev_var rfl) (rv_neX (.d _) (.p hnow) (sh_tiles _) (sh_tiles _)))) ?_
      · intro n w hw
        rw [Int.toNat_natCast] at hw
        obtain ⟨hn1, rfl⟩ := range_get hw
        refine ⟨_, eg_name, et_nil, ev_meth (n := 2) (ws := [.i (n : Nat)]) (ev_var rfl) j1.ht.ob (nr (by decide +kernel) (by decide +kernel) (by decide +kernel)) (ea_cons (ev_var rfl) ea_nil) rfl ⟨p, s, l, sure, late, true, _, rfl, j1.ht, (fun h => nomatch h), (fun _ h => ?_), (fun i' _ e1 _ _ => ?_)⟩⟩
        · have : isNum (.int (n : Nat)) 0 ((sure.length : Int) - 1) = true := by
            simp [isNum]
            omega
          rw [this] at h
          cases h
        · cases e1
          rfl
      · have er := reads_eq sure late hin
        rw [← er]
        unfold rangeW
        rw [Int.toNat_natCast, List.map_map, List.map_map, ← hn]
        simp [Function.comp_def]
      · rw [eqv_self (sh_tiles _)]
        rfl
    · refine et_is (et_test (ev_op (ev_meth (n := 1) (ws := []) (ev_var rfl) j1.ht.ob (nr (by decide +kernel) (by decide +kernel) (by decide +kernel)) ea_nil rfl ⟨p, s, l, sure, late, true, rfl, j1.ht, rfl⟩) (ev_var rfl) rv_neI)) ?_
      rw [hn]
      simp
    · exact et_is (et_test (ev_op (ev_meth (n := 1) (ws := []) (ev_var rfl) j1.ht.ob (nr (by decide +kernel) (by decide +kernel) (by decide +kernel)) ea_nil rfl ⟨p, s, l, true, rfl, j1.ht.ob, rfl⟩) ev_bl rv_notB)) rfl
  show St _ _ _ _ _ _
  refine st_ifF (μ1 := μ1) ?_ (st_next ?_)
  · refine et_is (et_or0 (a := false) (b := false) ?_ fun _ => et_is (et_or0 (a := false) (b := false) (late_ev (Φ' := none) T j1) fun _ => ?_) rfl) rfl
    · exact et_not (et_tr (ev_call (ws := [.p p]) (ea_cons (ev_var rfl) ea_nil) rfl ⟨p, s, l, sure, late, rfl, j1.ht, by omega, hin, j.h48, j.l48, rfl⟩) (.b true))
    · exact et_is (et_test (ev_op (ev_meth (n := 1) (ws := []) (ev_var rfl) hc1 (tf_no _ _ _ (by decide +kernel) (by decide +kernel) (by decide +kernel)) ea_nil rfl ⟨c, s', l', true, rfl, hc1, rfl⟩) ev_bl rv_notB)) rfl
  exact ⟨_, _, rfl, s, l, r, k, big, sure, late, _, _, _, _, _, _, _, _, _, rfl, j1⟩
end
theorem ok_law {P : Program} {w : World} {K : PySem.W.Frag} {mg : Str → Option Value} {base : Heap} {a : Ad} (T : Txt K mg a) : FnOk P w K mg base CX0 5 a.f_law a.d_law ["script"] (spLaw K) := by
  refine T.f_law.ok sc_law (fun vs H Q E h => ?_) (fun cdv A outer s H vs Q E hr h => ?_)
  · obtain ⟨_, _, rfl, _⟩ := h
    rfl
  have hu : (A.deeper (envOfC "law" (defScope s_law) s.heap.objs.size a.f_law cdv)).units + 64 < cLine := hr.units
  refine ⟨_, (pss_cons (ps_set (i := 1) sc_law.nd rfl (Or.inr rfl) (pe_lst (pa_cons (pv 0) (pa_cons pe_int (pa_cons pe_int pa_nil)))))
    (pss_cons (ps_set (i := 2) sc_law.nd rfl (Or.inl rfl) (pe_op op_addU pe_int (by exact (pe_callU (ok_law_next T) (hr.mono (by decide)) rfl T.g__law_next T.f_law_next.kp T.b_law_next takes0 (by exact (pa_cons (pv 1) (pa_cons pe_int pa_nil)))))))
    (pss_cons (ps_set (i := 3) sc_law.nd rfl (Or.inr rfl) (by exact (pe_makeU T.mk_Tiles (ok_Tiles_init__ T) (hr.mono (by decide)) rfl T.g_Tiles T.b_Tiles_init__ takes0 (by exact (pa_cons (pv 2) pa_nil)))))
    (pss_cons (ps_set (i := 4) sc_law.nd rfl (Or.inl rfl) (pe_op op_mulU (pe_lst (pa_cons (pe_op op_mulU (pe_tup (pa_cons pe_int pa_nil)) pe_int) pa_nil)) (pv 2)))
    (pss_cons (ps_set (i := 5) sc_law.nd rfl (Or.inl rfl) (pe_lst pa_nil))
    (pss_cons (ps_for PassesOwn.never rfl (pi_range1 rfl T.z_range (pa_cons pe_int pa_nil)) (pg_name (i := 6) sc_law.nd rfl (Or.inl rfl)) (pss_cons (ps_set (i := 7) sc_law.nd rfl (Or.inl rfl) (by exact (pe_callU (ok_law_next T) (hr.mono (by decide)) rfl T.g__law_next T.f_law_next.kp T.b_law_next takes0 (by exact (pa_cons (pv 1) (pa_cons pe_int pa_nil))))))
    (pss_cons (ps_set (i := 8) sc_law.nd rfl (Or.inl rfl) (by exact (pe_methU0 (by exact (pv 3)) T.c_Tiles T.m_Tiles_copy (ok_Tiles_copy T) (hr.mono (by decide)) T.b_Tiles_copy takes0)))
    (pss_cons (ps_if (pt_cmpR op_ltU (pv 7) pe_int (nomark _)) (pss_cons (ps_set (i := 12) sc_law.nd rfl (Or.inl rfl) (pe_tup (pa_cons (by exact (pe_callU (ok_law_next T) (hr.mono (by decide)) rfl T.g__law_next T.f_law_next.kp T.b_law_next takes0 (by exact (pa_cons (pv 1) (pa_cons (pv 2) pa_nil))))) (pa_cons (by exact (pe_callU (ok_law_data T) (hr.mono (by decide)) rfl T.g__law_data T.f_law_data.kp T.b_law_data takes0 (by exact (pa_cons (pv 1) pa_nil)))) pa_nil))))
    (pss_cons (ps_expr (by exact (pe_methU (by exact (pv 3)) T.c_Tiles T.m_Tiles_put (ok_Tiles_put T) (hr.mono (by decide)) T.b_Tiles_put takes0 (by exact (pa_cons (pe_ix ix_seq (pv 12) pe_int (fun _ _ => rfl)) (pa_cons (pe_ix ix_seq (pv 12) pe_int (fun _ _ => rfl)) pa_nil))))))
    (pss_one (ps_expr (pe_bm PySem.F.plainAttrs_list PySem.F.slot_list_append PySem.F.type_list_append mt_append (pv 5) (pa_cons (pv 12) pa_nil)))))) (pss_one (ps_if (pt_cmpR (op_eqU hu) (pv 7) pe_int (nomark _)) (pss_cons (ps_if (pt_cmpR (op_neU hu) (by exact (pe_methU0 (by exact (pv 3)) T.c_Tiles T.m_Tiles_settle (ok_Tiles_settle T) (hr.mono (by decide)) T.b_Tiles_settle takes0)) (pe_callB call_lenU rfl T.z_len (by decide +kernel) (pa_cons (pv 5) pa_nil)) (nomark _)) (pss_one (ps_ret pe_bl)) pss_nil)
    (pss_cons (ps_for PassesOwn.never rfl (pi_seqU (pv 5)) (pg_tup rfl (pgs_cons (pg_name (i := 10) sc_law.nd rfl (Or.inl rfl)) (pgs_cons (pg_name (i := 11) sc_law.nd rfl (Or.inl rfl)) pgs_nil))) (pss_one (ps_asg (pv 11) (pg_sub (pv 4) (pv 10) set_list))))
    (pss_one (ps_set (i := 5) sc_law.nd rfl (Or.inl rfl) (pe_lst pa_nil))))) (pss_cons (ps_setLc (i := 13) rfl sc_law.nd rfl rfl (sw_true rfl rfl rfl (by decide +kernel)) (own := [("row", 12)]) (g := (gName 12)) (tt := tYes) (te := (tOp (rIx K) (tLst (tCons (tC (.int 0)) (tCons (tC (.int 48)) (tCons (tCallS (spOf K 2 phTake) (WE (fun _ _ _ _ => False)) (tCons (tVar 1) (tCons (tC (.int 49)) tNil))) tNil)))) (tCallS (spOf K 2 phTake) (WE (fun _ _ _ _ => False)) (tCons (tVar 1) (tCons (tC (.int 3)) tNil))))) (by exact (pi_seqU (pv 5))) (blkOk_by (own := [("row", 12)]) (N := ["script", "state", "many", "disk", "sure", "late", "turn", "pick", "copied", "now", "place", "data", "row", "came", "k"]) (sc := defScope s_law) (by decide +kernel)) (fun _ _ _ _ _ => by exact (pg_name (i := 12) sc_law.nd rfl (Or.inl rfl))) (fun _ _ _ _ _ => by exact pts_nil) (fun _ _ _ _ _ => by exact (pe_ix ix_seq (pe_lst (pa_cons pe_int (pa_cons pe_int (pa_cons (by exact (pe_callU (ok_law_next T) (hr.mono (by decide)) rfl T.g__law_next T.f_law_next.kp T.b_law_next takes0 (by exact (pa_cons (pv 1) (pa_cons pe_int pa_nil))))) pa_nil)))) (by exact (pe_callU (ok_law_next T) (hr.mono (by decide)) rfl T.g__law_next T.f_law_next.kp T.b_law_next takes0 (by exact (pa_cons (pv 1) (pa_cons pe_int pa_nil))))) (fun _ _ => rfl))))
    (pss_cons (ps_expr (by exact (pe_methU (by exact (pv 3)) T.c_Tiles T.m_Tiles_fail (ok_Tiles_fail T) (hr.mono (by decide)) T.b_Tiles_fail takes0 (by exact (pa_cons (pe_callTy call_lstU rfl T.z_list (by decide +kernel) (pa_cons (pv 13) pa_nil)) pa_nil)))))
    (pss_cons (ps_if (pt_not (pt_tr (by exact (pe_callU (ok_law_off T) (hr.mono (by decide)) rfl T.g__law_off T.f_law_off.kp T.b_law_off takes0 (by exact (pa_cons (pv 3) pa_nil)))))) (pss_one (ps_ret pe_bl)) pss_nil)
    (pss_cons (ps_expr (by exact (pe_methU0 (by exact (pv 3)) T.c_Tiles T.m_Tiles_start (ok_Tiles_start T) (hr.mono (by decide)) T.b_Tiles_start takes0)))
    (pss_cons (ps_for PassesOwn.never rfl (pi_range1 rfl T.z_range (pa_cons (pe_callB call_lenU rfl T.z_len (by decide +kernel) (pa_cons (pv 5) pa_nil)) pa_nil)) (pg_name (i := 14) sc_law.nd rfl (Or.inl rfl)) (pss_cons (ps_asg (pe_ix ix_seq (pv 5) (pv 14) (fun _ _ => rfl)) (pg_tup rfl (pgs_cons (pg_name (i := 10) sc_law.nd rfl (Or.inl rfl)) (pgs_cons (pg_name (i := 11) sc_law.nd rfl (Or.inl rfl)) pgs_nil))))
    (pss_one (ps_asg (pe_op op_addU (pe_slice sl_U (pv 11) po_none (po_some (pe_ix ix_seq (pv 13) (pv 14) (fun _ _ => rfl)))) (pe_slice sl_U (pe_ix ix_seq (pv 4) (pv 10) (fun _ _ => rfl)) (po_some (pe_ix ix_seq (pv 13) (pv 14) (fun _ _ => rfl))) po_none)) (pg_sub (pv 4) (pv 10) set_list)))))
    (pss_one (ps_set (i := 5) sc_law.nd rfl (Or.inl rfl) (pe_lst pa_nil)))))))))))
    (pss_cons (ps_set (i := 9) sc_law.nd rfl (Or.inl rfl) (pe_callTy call_lstU rfl T.z_list (by decide +kernel) (pa_cons (pv 4) pa_nil)))
    (pss_cons (ps_for PassesOwn.never rfl (pi_seqU (pv 5)) (pg_tup rfl (pgs_cons (pg_name (i := 10) sc_law.nd rfl (Or.inl rfl)) (pgs_cons (pg_name (i := 11) sc_law.nd rfl (Or.inl rfl)) pgs_nil))) (pss_one (ps_asg (pv 11) (pg_sub (pv 9) (pv 10) set_list))))
    (pss_cons (ps_if (PW.pt (pw_or (pt_cmpR (op_neU hu) (pe_lc (own := [("place", 10)]) (g := (gName 10)) (tt := tYes) (te := (tMethU a.C_Tiles "get" (spOf K 2 (phGet a)) (WE (fun _ _ _ _ => False)) (tVar 3) (tCons (tVar 10) tNil))) rfl sc_law.nd (by exact (pi_range1 rfl T.z_range (pa_cons (pv 2) pa_nil))) (blkOk_by (own := [("place", 10)]) (N := ["script", "state", "many", "disk", "sure", "late", "turn", "pick", "copied", "now", "place", "data", "row", "came", "k"]) (sc := defScope s_law) (by decide +kernel)) (fun _ _ _ _ _ => by exact (pg_name (i := 10) sc_law.nd rfl (Or.inl rfl))) (fun _ _ _ _ _ => by exact pts_nil) (fun _ _ _ _ _ => by exact (by exact (pe_methU (by exact (pv 3)) T.c_Tiles T.m_Tiles_get (ok_Tiles_get T) (hr.mono (by decide)) T.b_Tiles_get takes0 (by exact (pa_cons (pv 10) pa_nil)))))) (pv 9) (nomark _)) (pw_or (pt_cmpR (op_neU hu) (by exact (pe_methU0 (by exact (pv 3)) T.c_Tiles T.m_Tiles_late (ok_Tiles_late T) (hr.mono (by decide)) T.b_Tiles_late takes0)) (pe_lc (own := [("row", 12)]) (g := (gName 12)) (tt := tYes) (te := (tOp (rIx K) (tVar 12) (tC (.int 0)))) rfl sc_law.nd (by exact (pi_seqU (pv 5))) (blkOk_by (own := [("row", 12)]) (N := ["script", "state", "many", "disk", "sure", "late", "turn", "pick", "copied", "now", "place", "data", "row", "came", "k"]) (sc := defScope s_law) (by decide +kernel)) (fun _ _ _ _ _ => by exact (pg_name (i := 12) sc_law.nd rfl (Or.inl rfl))) (fun _ _ _ _ _ => by exact pts_nil) (fun _ _ _ _ _ => by exact (pe_ix ix_seq (pv 12) pe_int (fun _ _ => rfl)))) (nomark _)) (pw_or (pt_cmpR (op_neU hu) (by exact (pe_methU0 (by exact (pv 3)) T.c_Tiles T.m_Tiles_count (ok_Tiles_count T) (hr.mono (by decide)) T.b_Tiles_count takes0)) (pv 2) (nomark _)) (pw_or1 (pt_cmpR op_isnU (by exact (pe_methU0 (by exact (pv 3)) T.c_Tiles T.m_Tiles_has_power (ok_Tiles_has_power T) (hr.mono (by decide)) T.b_Tiles_has_power takes0)) pe_bl (nomark _))))))) (pss_one (ps_ret pe_bl)) pss_nil)
    (pss_one (ps_if (PW.pt (pw_or (pt_not (pt_tr (by exact (pe_callU (ok_law_raised T) (hr.mono (by decide)) rfl T.g__law_raised T.f_law_raised.kp T.b_law_raised takes0 (by exact (pa_cons (pv 3) pa_nil)))))) (pw_or (pt_cmpR (op_neU hu) (by exact (pe_methU0 (by exact (pv 3)) T.c_Tiles T.m_Tiles_late (ok_Tiles_late T) (hr.mono (by decide)) T.b_Tiles_late takes0)) (pe_lc (own := [("row", 12)]) (g := (gName 12)) (tt := tYes) (te := (tOp (rIx K) (tVar 12) (tC (.int 0)))) rfl sc_law.nd (by exact (pi_seqU (pv 5))) (blkOk_by (own := [("row", 12)]) (N := ["script", "state", "many", "disk", "sure", "late", "turn", "pick", "copied", "now", "place", "data", "row", "came", "k"]) (sc := defScope s_law) (by decide +kernel)) (fun _ _ _ _ _ => by exact (pg_name (i := 12) sc_law.nd rfl (Or.inl rfl))) (fun _ _ _ _ _ => by exact pts_nil) (fun _ _ _ _ _ => by exact (pe_ix ix_seq (pv 12) pe_int (fun _ _ => rfl)))) (nomark _)) (pw_or1 (pt_cmpR op_isnU (by exact (pe_methU0 (by exact (pv 8)) T.c_Tiles T.m_Tiles_has_power (ok_Tiles_has_power T) (hr.mono (by decide)) T.b_Tiles_has_power takes0)) pe_bl (nomark _)))))) (pss_one (ps_ret pe_bl)) pss_nil)))))))))
    (pss_one (ps_ret pe_bl)))))))), ?_⟩
  try dsimp only [cxOf_K]
  refine law_body (n := 14) (X := fun _ _ _ _ => False) rfl (fun ns hl => ?_) h
  refine st_seq (st_set (w := .p 0) (μ1 := [stW ns 0 0]) (ev_lstP (ea_cons (ev_var rfl) (ea_cons ev_int (ea_cons ev_int ea_nil))) (by show 3 ≤ sizeLine; decide)) ?_)
  show St _ _ _ _ _ _
  dsimp only [List.set_cons_zero, List.set_cons_succ]
  have f1 := takeF_range ns 0 0 8 (by decide)
  have c0 : (takeM ns 0 0 8 0 [stW ns 0 0])[0]? = some (stW ns (takeK 0 0) (takeB ns 0 0 8)) := rfl
  have l0 : (takeM ns 0 0 8 0 [stW ns 0 0]).length = 1 := rfl
  obtain ⟨many, hmany⟩ : ∃ many : Nat, 1 + takeF ns 0 0 8 = (many : Int) := ⟨(1 + takeF ns 0 0 8).toNat, by omega⟩
  refine st_seq (st_set (w := .i (many : Nat)) (μ1 := takeM ns 0 0 8 0 [stW ns 0 0]) ?_ ?_)
  · rw [← hmany]
    exact ev_op ev_int (ev_call (ws := [.p 0, .i 8]) (ea_cons (ev_var rfl) (ea_cons ev_int ea_nil)) rfl ⟨0, ns, 0, 0, 8, rfl, rfl, by decide, by decide, by decide, rfl⟩) rv_addI
  show St _ _ _ _ _ _
  dsimp only [List.set_cons_zero, List.set_cons_succ]
  have hm : 1 ≤ many ∧ many ≤ 8 := by omega
  generalize takeM ns 0 0 8 0 [stW ns 0 0] = μ0 at c0 l0 ⊢
  have hk0 : 0 ≤ takeK 0 0 := by decide
  generalize takeK 0 0 = k0 at c0 hk0
  generalize takeB ns 0 0 8 = b0 at c0
  refine st_seq (st_set (w := .p μ0.length) (μ1 := initM a.C_Tiles μ0.length many (μ0 ++ [Cell.ins a.C_Tiles []])) (ev_make (ws := [.i (many : Nat)]) (ea_cons (ev_var rfl) ea_nil) rfl ⟨_, _, rfl, gL, .inr ⟨many, rfl, hm.1, by omega, rfl⟩⟩) ?_)
  show St _ _ _ _ _ _
  dsimp only [List.set_cons_zero, List.set_cons_succ]
  have t0 := initM_tiles (C := a.C_Tiles) (n := many) (gL (μ := μ0) (c := Cell.ins a.C_Tiles [])) (by omega)
  have c1 : (initM a.C_Tiles μ0.length many (μ0 ++ [Cell.ins a.C_Tiles []]))[0]? = some (stW ns k0 b0) := initM_keep (ga c0) (by omega)
  have ls0 : (μ0 ++ [Cell.ins a.C_Tiles []]).length = 2 := by rw [List.length_append, l0]; rfl
  have ll0 : initL a.C_Tiles μ0.length many (μ0 ++ [Cell.ins a.C_Tiles []]) = 3 := by
    unfold initL
    rw [List.length_set, List.length_append, ls0]
    rfl
  have lm0 : (initM a.C_Tiles μ0.length many (μ0 ++ [Cell.ins a.C_Tiles []])).length = 4 := by
    unfold initM
    simp only [List.length_set, List.length_append, l0]
    rfl
  rw [ls0, ll0, l0] at t0
  rw [l0] at c1 lm0 ⊢
  generalize initM a.C_Tiles 1 many (μ0 ++ [Cell.ins a.C_Tiles []]) = μ1 at t0 c1 lm0 ⊢
  have hsw : (List.replicate (many : Int).toNat [W.d (.tuple (List.replicate 48 (PyData.int 0)))]).flatten = sureW (List.replicate many blank) := by
    rw [flat1, Int.toNat_natCast]
    unfold sureW
    rw [List.map_replicate, List.map_replicate, blank_D]
  have hone : (List.replicate (48 : Int).toNat [PyData.int 0]).flatten = List.replicate 48 (PyData.int 0) := flat1 _ _
  refine st_seq (st_set (w := .p (μ1 ++ [Cell.lst [W.d (.tuple (List.replicate 48 (PyData.int 0)))]]).length) (μ1 := μ1 ++ [Cell.lst [W.d (.tuple (List.replicate 48 (PyData.int 0)))]] ++ [Cell.lst (sureW (List.replicate many blank))]) ?_ ?_)
  · rw [← hsw]
    exact ev_op (ev_lstP (ws := [W.d (.tuple (List.replicate 48 (PyData.int 0)))]) (ea_cons (ev_is (ev_op (ev_tup (xs := [.int 0]) (ea_cons ev_int ea_nil) rfl (by decide)) ev_int (rv_mulT (by simp) (by decide) (by decide) (by decide))) (by rw [hone])) ea_nil) (by show 1 ≤ sizeLine; decide)) (ev_var rfl) (rv_mulL gL (by omega) (by omega) (by show 1 * (many : Int).toNat ≤ sizeLine; exact Nat.le_trans (show _ ≤ 8 by omega) (by decide)))
  show St _ _ _ _ _ _
  dsimp only [List.set_cons_zero, List.set_cons_succ]
  have lq : (μ1 ++ [Cell.lst [W.d (.tuple (List.replicate 48 (PyData.int 0)))]]).length = 5 := by rw [List.length_append, lm0]; rfl
  have t1 := (t0.app (ys := [Cell.lst [W.d (.tuple (List.replicate 48 (PyData.int 0)))]])).app (ys := [Cell.lst (sureW (List.replicate many blank))])
  have c2 := ga (ys := [Cell.lst (sureW (List.replicate many blank))]) (ga (ys := [Cell.lst [W.d (.tuple (List.replicate 48 (PyData.int 0)))]]) c1)
  have q2 : (μ1 ++ [Cell.lst [W.d (.tuple (List.replicate 48 (PyData.int 0)))]] ++ [Cell.lst (sureW (List.replicate many blank))])[5]? = some (.lst (sureW (List.replicate many blank))) := by
    rw [← lq]
    exact gL
  have lr2 : (μ1 ++ [Cell.lst [W.d (.tuple (List.replicate 48 (PyData.int 0)))]] ++ [Cell.lst (sureW (List.replicate many blank))]).length = 6 := by rw [List.length_append, lq]; rfl
  rw [lq]
  generalize μ1 ++ [Cell.lst [W.d (.tuple (List.replicate 48 (PyData.int 0)))]] ++ [Cell.lst (sureW (List.replicate many blank))] = μ2 at t1 c2 q2 lr2 ⊢
  refine st_seq (st_set (ev_lstP ea_nil (by decide)) ?_)
  show St _ _ _ _ _ _
  dsimp only [List.set_cons_zero, List.set_cons_succ]
  have r3 : (μ2 ++ [Cell.lst []])[6]? = some (.lst (lateW [])) := by
    rw [← lr2]
    exact gL
  have j0 : J a.C_Tiles ns many 0 (μ2 ++ [Cell.lst []]) 0 1 2 3 5 6 k0 b0 (List.replicate many blank) [] :=
    ⟨ga c2, hk0, t1.app, ga q2, r3, by decide, by simp, (fun x hx => nomatch hx), (fun x hx => by rw [List.eq_of_mem_replicate hx]; rfl), (fun x hx => nomatch hx), by simp⟩
  rw [lr2]
  refine st_seq (st_for (ei_rng1 (ea_cons ev_int ea_nil) (by decide) (by decide)) (fun i δ μ => PJ a.C_Tiles ns many 0 1 5 i δ μ) ⟨2, 3, 6, k0, b0, _, _, _, _, _, _, _, _, _, _, _, rfl, j0⟩ (fun _ _ _ _ => trivial) ?_ ?_)
  · rintro i w δi μi hw ⟨s, l, r, k, big, sure, late, x6, x7, x8, x9, x10, x11, x12, x13, x14, rfl, j⟩
    obtain ⟨hi, rfl⟩ := range_get hw
    have hi' : i < 10 := hi
    refine ⟨_, _, eg_name, ?_⟩
    dsimp only [List.set_cons_zero, List.set_cons_succ]
    have jt := j.take 5
    refine st_seq (st_set (w := .i (takeF ns k big 5)) (ev_call (ws := [.p 0, .i 5]) (ea_cons (ev_var rfl) (ea_cons ev_int ea_nil)) rfl ⟨0, ns, k, big, 5, rfl, j.hst, j.hk, by decide, by decide, rfl⟩) ?_)
    show St _ _ _ _ _ _
    dsimp only [List.set_cons_zero, List.set_cons_succ]
    generalize takeF ns k big 5 = pick
    generalize takeM ns k big 5 0 μi = μj at jt ⊢
    generalize takeK k big = k' at jt
    generalize takeB ns k big 5 = big' at jt
    have hsl : 1 ≤ sure.length := by
      have := j.n1
      omega
    refine st_seq (st_set (ev_meth (n := 1) (ws := []) (ev_var rfl) jt.ht.ob (tf_no _ _ _ (by decide +kernel) (by decide +kernel) (by decide +kernel)) ea_nil rfl ⟨1, s, l, sure, late, true, rfl, jt.ht, hsl, rfl⟩) ?_)
    show St _ _ _ _ _ _
    dsimp only [List.set_cons_zero, List.set_cons_succ]
    obtain ⟨s', l', hc⟩ := copyM_at (C := a.C_Tiles) (sure := sure) (late := late) (pw := true) (μ := μj)
    have jc := jt.keep (μ' := copyM a.C_Tiles sure late true μj) fun m c h => copyM_keep h
    have hc0 : μj.length ≠ 1 := gN jt.ht.ob
    generalize copyM a.C_Tiles sure late true μj = μc at jc hc ⊢
    generalize μj.length = c at hc hc0 ⊢
    refine st_seq (st_mono (O := J2 a.C_Tiles ns many i 0 1 5 c) ?_ ?_)
    · refine st_if0 (b := decide (pick < 3)) (et_test (ev_op (ev_var rfl) ev_int rv_ltI)) (fun _ => ?_) fun _ => ?_
      · exact branchA T jc hm hi' hc
      · refine st_if0 (b := decide (pick = 3)) (et_test (ev_op (ev_var rfl) ev_int rv_eqI)) (fun _ => ?_) fun _ => ?_
        · exact branchB T jc hc hc0
        · exact branchC T jc hm hc hc0
    · rintro o ⟨s2, l2, r2, k2, big2, sure2, late2, y6, y7, y9, y10, y11, y12, y13, y14, μd, s3, l3, rfl, jd, hcd⟩
      show St _ _ _ _ _ _
      refine st_mono (second T jd hm hcd) ?_
      rintro o ⟨δ', μ', rfl, hp⟩
      exact hp
  · rintro δi μi _
    show St _ _ _ _ _ _
    exact st_ret ev_bl rfl
end Mine

set_option Elab.async false
set_option linter.all false
set_option maxRecDepth 100000
set_option maxHeartbeats 4000000
namespace Mine
open PySem PySem.Spec PyProof.Rows L2 DL

theorem dp_rep {K : PySem.W.Frag} (F : Hp) : ∀ n : Nat, DpAll K F (List.replicate n (V.int 0)) (List.replicate n (PyData.int 0))
  | 0 => .nil
  | n + 1 => .cons (.int 0) (dp_rep F n)
theorem all_mk {P : Program} {w : World} {K : PySem.W.Frag} {h : Heap} {mg : Str → Option Value} {fa : Addr} (X : K.In h) (G : h.Ns mainGlobals mg) (hfa : mg "law" = some (.ref fa))
    {oc0 kV0 dc0 pm0 cd0 ct0 : Value} {od0 an0 : Option Addr} {sl0 : Array (Option Value)} {oc1 kV1 dc1 pm1 cd1 ct1 : Value} {od1 an1 : Option Addr} {sl1 : Array (Option Value)} {oc2 kV2 dc2 pm2 cd2 ct2 : Value} {od2 an2 : Option Addr} {sl2 : Array (Option Value)} {oc3 kV3 dc3 pm3 cd3 ct3 : Value} {od3 an3 : Option Addr} {sl3 : Array (Option Value)} {oc4 kV4 dc4 pm4 cd4 ct4 : Value} {od4 an4 : Option Addr} {sl4 : Array (Option Value)} {oc5 kV5 dc5 pm5 cd5 ct5 : Value} {od5 an5 : Option Addr} {sl5 : Array (Option Value)} {oc6 kV6 dc6 pm6 cd6 ct6 : Value} {od6 an6 : Option Addr} {sl6 : Array (Option Value)} {oc7 kV7 dc7 pm7 cd7 ct7 : Value} {od7 an7 : Option Addr} {sl7 : Array (Option Value)} {oc8 kV8 dc8 pm8 cd8 ct8 : Value} {od8 an8 : Option Addr} {sl8 : Array (Option Value)} {oc9 kV9 dc9 pm9 cd9 ct9 : Value} {od9 an9 : Option Addr} {sl9 : Array (Option Value)} {oc10 kV10 dc10 pm10 cd10 ct10 : Value} {od10 an10 : Option Addr} {sl10 : Array (Option Value)} {oc11 kV11 dc11 pm11 cd11 ct11 : Value} {od11 an11 : Option Addr} {sl11 : Array (Option Value)} {oc12 kV12 dc12 pm12 cd12 ct12 : Value} {od12 an12 : Option Addr} {sl12 : Array (Option Value)} {oc13 kV13 dc13 pm13 cd13 ct13 : Value} {od13 an13 : Option Addr} {sl13 : Array (Option Value)} {oc14 kV14 dc14 pm14 cd14 ct14 : Value} {od14 an14 : Option Addr} {sl14 : Array (Option Value)} {oc15 kV15 dc15 pm15 cd15 ct15 : Value} {od15 an15 : Option Addr} {sl15 : Array (Option Value)} {oc16 kV16 dc16 pm16 cd16 ct16 : Value} {od16 an16 : Option Addr} {sl16 : Array (Option Value)} {oc17 kV17 dc17 pm17 cd17 ct17 : Value} {od17 an17 : Option Addr} {sl17 : Array (Option Value)} {oc18 kV18 dc18 pm18 cd18 ct18 : Value} {od18 an18 : Option Addr} {sl18 : Array (Option Value)} {oc19 kV19 dc19 pm19 cd19 ct19 : Value} {od19 an19 : Option Addr} {sl19 : Array (Option Value)} {c0 : Tok} {c1 : Tok} {c2 : Addr} {ddc2 : Option Addr} {itc2 : Array Value} {nc2 : Nat} {slc2 : Array (Option Value)} {f0 : Addr} {f1 : Addr} {f2 : Addr} {f3 : Addr} {f4 : Addr} {f5 : Addr} {f6 : Addr} {f7 : Addr} {f8 : Addr} {f9 : Addr} {f10 : Addr} {f11 : Addr} {f12 : Addr} {f13 : Addr} {f14 : Addr} {f15 : Addr} {f16 : Addr} {f17 : Addr} {f18 : Addr} {f19 : Addr} {C0 : Addr} {C1 : Addr} {C2 : Addr}
    (gC0 : PySem.W.nsIn K mainGlobals "InvalidArgument" = some (some (.ref C0)))
    (gC1 : PySem.W.nsIn K mainGlobals "PowerOff" = some (some (.ref C1)))
    (gC2 : PySem.W.nsIn K mainGlobals "Tiles" = some (some (.ref C2)))
    (a0 : PySem.W.nsIn K mainGlobals "is_number_of" = some (some (.ref f0)))
    (l0 : K.lookup f0 = some ⟨oc0, od0, .func (PySem.W.fnOf "is_number_of" "is_number_of" (defArgs s_is_number_of) (defBody s_is_number_of) (defScope s_is_number_of) .none kV0 dc0 pm0 an0 cd0 ct0), sl0⟩)
    (c0_ : PySem.W.codeIn K cd0 "is_number_of" = true)
    (k0 : PySem.W.keepIn K (.ref f0) = true)
    (a1 : PySem.W.nsIn K mainGlobals "are_bytes" = some (some (.ref f1)))
    (l1 : K.lookup f1 = some ⟨oc1, od1, .func (PySem.W.fnOf "are_bytes" "are_bytes" (defArgs s_are_bytes) (defBody s_are_bytes) (defScope s_are_bytes) .none kV1 dc1 pm1 an1 cd1 ct1), sl1⟩)
    (c1_ : PySem.W.codeIn K cd1 "are_bytes" = true)
    (k1 : PySem.W.keepIn K (.ref f1) = true)
    (a2 : PySem.W.findIn K (.ref C2) "__init__" = some (some (.ref f2)))
    (i2 : PySem.W.isFn K (.ref f2) = true)
    (l2 : K.lookup f2 = some ⟨oc2, od2, .func (PySem.W.fnOf "__init__" "Tiles.__init__" (defArgs s_Tiles_init__) (defBody s_Tiles_init__) (defScope s_Tiles_init__) .none kV2 dc2 pm2 an2 cd2 ct2), sl2⟩)
    (c2_ : PySem.W.codeIn K cd2 "Tiles.__init__" = true)
    (k2 : PySem.W.keepIn K (.ref f2) = true)
    (a3 : PySem.W.findIn K (.ref C2) "count" = some (some (.ref f3)))
    (i3 : PySem.W.isFn K (.ref f3) = true)
    (l3 : K.lookup f3 = some ⟨oc3, od3, .func (PySem.W.fnOf "count" "Tiles.count" (defArgs s_Tiles_count) (defBody s_Tiles_count) (defScope s_Tiles_count) .none kV3 dc3 pm3 an3 cd3 ct3), sl3⟩)
    (c3_ : PySem.W.codeIn K cd3 "Tiles.count" = true)
    (k3 : PySem.W.keepIn K (.ref f3) = true)
    (a4 : PySem.W.findIn K (.ref C2) "has_power" = some (some (.ref f4)))
    (i4 : PySem.W.isFn K (.ref f4) = true)
    (l4 : K.lookup f4 = some ⟨oc4, od4, .func (PySem.W.fnOf "has_power" "Tiles.has_power" (defArgs s_Tiles_has_power) (defBody s_Tiles_has_power) (defScope s_Tiles_has_power) .none kV4 dc4 pm4 an4 cd4 ct4), sl4⟩)
    (c4_ : PySem.W.codeIn K cd4 "Tiles.has_power" = true)
    (k4 : PySem.W.keepIn K (.ref f4) = true)
    (a5 : PySem.W.findIn K (.ref C2) "_checked" = some (some (.ref f5)))
    (i5 : PySem.W.isFn K (.ref f5) = true)
    (l5 : K.lookup f5 = some ⟨oc5, od5, .func (PySem.W.fnOf "_checked" "Tiles._checked" (defArgs s_Tiles__checked) (defBody s_Tiles__checked) (defScope s_Tiles__checked) .none kV5 dc5 pm5 an5 cd5 ct5), sl5⟩)
    (c5_ : PySem.W.codeIn K cd5 "Tiles._checked" = true)
    (k5 : PySem.W.keepIn K (.ref f5) = true)
    (a6 : PySem.W.findIn K (.ref C2) "get" = some (some (.ref f6)))
    (i6 : PySem.W.isFn K (.ref f6) = true)
    (l6 : K.lookup f6 = some ⟨oc6, od6, .func (PySem.W.fnOf "get" "Tiles.get" (defArgs s_Tiles_get) (defBody s_Tiles_get) (defScope s_Tiles_get) .none kV6 dc6 pm6 an6 cd6 ct6), sl6⟩)
    (c6_ : PySem.W.codeIn K cd6 "Tiles.get" = true)
    (k6 : PySem.W.keepIn K (.ref f6) = true)
    (a7 : PySem.W.findIn K (.ref C2) "put" = some (some (.ref f7)))
    (i7 : PySem.W.isFn K (.ref f7) = true)
    (l7 : K.lookup f7 = some ⟨oc7, od7, .func (PySem.W.fnOf "put" "Tiles.put" (defArgs s_Tiles_put) (defBody s_Tiles_put) (defScope s_Tiles_put) .none kV7 dc7 pm7 an7 cd7 ct7), sl7⟩)
    (c7_ : PySem.W.codeIn K cd7 "Tiles.put" = true)
    (k7 : PySem.W.keepIn K (.ref f7) = true)
    (a8 : PySem.W.findIn K (.ref C2) "settle" = some (some (.ref f8)))
    (i8 : PySem.W.isFn K (.ref f8) = true)
    (l8 : K.lookup f8 = some ⟨oc8, od8, .func (PySem.W.fnOf "settle" "Tiles.settle" (defArgs s_Tiles_settle) (defBody s_Tiles_settle) (defScope s_Tiles_settle) .none kV8 dc8 pm8 an8 cd8 ct8), sl8⟩)
    (c8_ : PySem.W.codeIn K cd8 "Tiles.settle" = true)
    (k8 : PySem.W.keepIn K (.ref f8) = true)
    (a9 : PySem.W.findIn K (.ref C2) "late" = some (some (.ref f9)))
    (i9 : PySem.W.isFn K (.ref f9) = true)
    (l9 : K.lookup f9 = some ⟨oc9, od9, .func (PySem.W.fnOf "late" "Tiles.late" (defArgs s_Tiles_late) (defBody s_Tiles_late) (defScope s_Tiles_late) .none kV9 dc9 pm9 an9 cd9 ct9), sl9⟩)
    (c9_ : PySem.W.codeIn K cd9 "Tiles.late" = true)
    (k9 : PySem.W.keepIn K (.ref f9) = true)
    (a10 : PySem.W.findIn K (.ref C2) "fail" = some (some (.ref f10)))
    (i10 : PySem.W.isFn K (.ref f10) = true)
    (l10 : K.lookup f10 = some ⟨oc10, od10, .func (PySem.W.fnOf "fail" "Tiles.fail" (defArgs s_Tiles_fail) (defBody s_Tiles_fail) (defScope s_Tiles_fail) .none kV10 dc10 pm10 an10 cd10 ct10), sl10⟩)
    (c10_ : PySem.W.codeIn K cd10 "Tiles.fail" = true)
    (k10 : PySem.W.keepIn K (.ref f10) = true)
    (a11 : PySem.W.findIn K (.ref C2) "start" = some (some (.ref f11)))
    (i11 : PySem.W.isFn K (.ref f11) = true)
    (l11 : K.lookup f11 = some ⟨oc11, od11, .func (PySem.W.fnOf "start" "Tiles.start" (defArgs s_Tiles_start) (defBody s_Tiles_start) (defScope s_Tiles_start) .none kV11 dc11 pm11 an11 cd11 ct11), sl11⟩)
    (c11_ : PySem.W.codeIn K cd11 "Tiles.start" = true)
    (k11 : PySem.W.keepIn K (.ref f11) = true)
    (a12 : PySem.W.findIn K (.ref C2) "copy" = some (some (.ref f12)))
    (i12 : PySem.W.isFn K (.ref f12) = true)
    (l12 : K.lookup f12 = some ⟨oc12, od12, .func (PySem.W.fnOf "copy" "Tiles.copy" (defArgs s_Tiles_copy) (defBody s_Tiles_copy) (defScope s_Tiles_copy) .none kV12 dc12 pm12 an12 cd12 ct12), sl12⟩)
    (c12_ : PySem.W.codeIn K cd12 "Tiles.copy" = true)
    (k12 : PySem.W.keepIn K (.ref f12) = true)
    (a13 : PySem.W.nsIn K mainGlobals "_law_cell" = some (some (.ref f13)))
    (l13 : K.lookup f13 = some ⟨oc13, od13, .func (PySem.W.fnOf "_law_cell" "_law_cell" (defArgs s_law_cell) (defBody s_law_cell) (defScope s_law_cell) .none kV13 dc13 pm13 an13 cd13 ct13), sl13⟩)
    (c13_ : PySem.W.codeIn K cd13 "_law_cell" = true)
    (k13 : PySem.W.keepIn K (.ref f13) = true)
    (a14 : PySem.W.nsIn K mainGlobals "_law_take" = some (some (.ref f14)))
    (l14 : K.lookup f14 = some ⟨oc14, od14, .func (PySem.W.fnOf "_law_take" "_law_take" (defArgs s_law_take) (defBody s_law_take) (defScope s_law_take) .none kV14 dc14 pm14 an14 cd14 ct14), sl14⟩)
    (c14_ : PySem.W.codeIn K cd14 "_law_take" = true)
    (k14 : PySem.W.keepIn K (.ref f14) = true)
    (a15 : PySem.W.nsIn K mainGlobals "_law_next" = some (some (.ref f15)))
    (l15 : K.lookup f15 = some ⟨oc15, od15, .func (PySem.W.fnOf "_law_next" "_law_next" (defArgs s_law_next) (defBody s_law_next) (defScope s_law_next) .none kV15 dc15 pm15 an15 cd15 ct15), sl15⟩)
    (c15_ : PySem.W.codeIn K cd15 "_law_next" = true)
    (k15 : PySem.W.keepIn K (.ref f15) = true)
    (a16 : PySem.W.nsIn K mainGlobals "_law_data" = some (some (.ref f16)))
    (l16 : K.lookup f16 = some ⟨oc16, od16, .func (PySem.W.fnOf "_law_data" "_law_data" (defArgs s_law_data) (defBody s_law_data) (defScope s_law_data) .none kV16 dc16 pm16 an16 cd16 ct16), sl16⟩)
    (c16_ : PySem.W.codeIn K cd16 "_law_data" = true)
    (k16 : PySem.W.keepIn K (.ref f16) = true)
    (a17 : PySem.W.nsIn K mainGlobals "_law_off" = some (some (.ref f17)))
    (l17 : K.lookup f17 = some ⟨oc17, od17, .func (PySem.W.fnOf "_law_off" "_law_off" (defArgs s_law_off) (defBody s_law_off) (defScope s_law_off) .none kV17 dc17 pm17 an17 cd17 ct17), sl17⟩)
    (c17_ : PySem.W.codeIn K cd17 "_law_off" = true)
    (k17 : PySem.W.keepIn K (.ref f17) = true)
    (a18 : PySem.W.nsIn K mainGlobals "_law_raised" = some (some (.ref f18)))
    (l18 : K.lookup f18 = some ⟨oc18, od18, .func (PySem.W.fnOf "_law_raised" "_law_raised" (defArgs s_law_raised) (defBody s_law_raised) (defScope s_law_raised) .none kV18 dc18 pm18 an18 cd18 ct18), sl18⟩)
    (c18_ : PySem.W.codeIn K cd18 "_law_raised" = true)
    (k18 : PySem.W.keepIn K (.ref f18) = true)
    (a19 : PySem.W.nsIn K mainGlobals "law" = some (some (.ref f19)))
    (l19 : K.lookup f19 = some ⟨oc19, od19, .func (PySem.W.fnOf "law" "law" (defArgs s_law) (defBody s_law) (defScope s_law) .none kV19 dc19 pm19 an19 cd19 ct19), sl19⟩)
    (c19_ : PySem.W.codeIn K cd19 "law" = true)
    (k19 : PySem.W.keepIn K (.ref f19) = true)
    (xC0 : PySem.W.excIn K C0 [.type "ValueError", .type "Exception", .type "BaseException", .type "object"] "ValueError.__new__" = true)
    (kC0 : PySem.W.keepIn K (.ref C0) = true)
    (sbC0 : PySem.W.subIn K (.ref C0) (.type "BaseException") = some true)
    (tyC0 : PySem.W.typeIn K (.ref C0) = some (.type "type"))
    (icC0 : PySem.W.isClsIn K C0 = true)
    (xC1 : PySem.W.excIn K C1 [.type "ValueError", .type "Exception", .type "BaseException", .type "object"] "ValueError.__new__" = true)
    (kC1 : PySem.W.keepIn K (.ref C1) = true)
    (sbC1 : PySem.W.subIn K (.ref C1) (.type "BaseException") = some true)
    (tyC1 : PySem.W.typeIn K (.ref C1) = some (.type "type"))
    (icC1 : PySem.W.isClsIn K C1 = true)
    (pgC2 : PySem.W.plainGet K C2 Str.empty = true)
    (hdC2 : PySem.W.hasDictIn K C2 = true)
    (poC2 : PySem.W.plainOver K C2 = true)
    (saC2 : PySem.W.findIn K (.ref C2) "__setattr__" = some (some (.builtin "object.__setattr__")))
    (nC2_sure : PySem.W.findIn K (.ref C2) "_sure" = some none)
    (nC2_late : PySem.W.findIn K (.ref C2) "_late" = some none)
    (nC2_power : PySem.W.findIn K (.ref C2) "_power" = some none)
    (mkC2 : PySem.W.makesIn K C2 = true)
    (kcC2 : PySem.W.keepIn K (.ref C2) = true)
    (suC0C0 : PySem.W.subIn K (.ref C0) (.ref C0) = some true)
    (suC0C1 : PySem.W.subIn K (.ref C0) (.ref C1) = some false)
    (suC1C0 : PySem.W.subIn K (.ref C1) (.ref C0) = some false)
    (suC1C1 : PySem.W.subIn K (.ref C1) (.ref C1) = some true)
    (gc0 : PySem.W.nsIn K mainGlobals "SIZE" = some (some (.int 48 c0)))
    (gc1 : PySem.W.nsIn K mainGlobals "MOST" = some (some (.int 4000 c1)))
    (gc2 : PySem.W.nsIn K mainGlobals "BLANK" = some (some (.ref c2)))
    (lc2 : K.lookup c2 = some ⟨.type "tuple", ddc2, .seq itc2 nc2, slc2⟩)
    (vc2 : itc2.size ≤ sizeLine ∧ ∃ vs, Vals vs itc2.toList ∧ ∀ F, DpAll K F vs (List.replicate 48 (.int 0)))
    (z_abs : PySem.W.nsIn K mainGlobals "abs" = some none)
    (z_bool : PySem.W.nsIn K mainGlobals "bool" = some none)
    (z_int : PySem.W.nsIn K mainGlobals "int" = some none)
    (z_isinstance : PySem.W.nsIn K mainGlobals "isinstance" = some none)
    (z_len : PySem.W.nsIn K mainGlobals "len" = some none)
    (z_list : PySem.W.nsIn K mainGlobals "list" = some none)
    (z_range : PySem.W.nsIn K mainGlobals "range" = some none)
    (z_tuple : PySem.W.nsIn K mainGlobals "tuple" = some none)
    (z_zip : PySem.W.nsIn K mainGlobals "zip" = some none)
    : ∃ fd : FuncData, (∀ (s : Shared) (v : Value), BindsTo s fd ⟨[v], []⟩ [("script", v)]) ∧ ∀ base : Heap, K.In base → base.Ns mainGlobals mg → FnOk P w K mg base CX0 5 fa fd ["script"] (spLaw K) := by
  have e := hfa.symm.trans (PySem.W.mg_of X G a19)
  cases e
  have F0 := fun_mk (st := s_is_number_of) l0 c0_ k0
  have F1 := fun_mk (st := s_are_bytes) l1 c1_ k1
  have F2 := fun_mk (st := s_Tiles_init__) l2 c2_ k2
  have F3 := fun_mk (st := s_Tiles_count) l3 c3_ k3
  have F4 := fun_mk (st := s_Tiles_has_power) l4 c4_ k4
  have F5 := fun_mk (st := s_Tiles__checked) l5 c5_ k5
  have F6 := fun_mk (st := s_Tiles_get) l6 c6_ k6
  have F7 := fun_mk (st := s_Tiles_put) l7 c7_ k7
  have F8 := fun_mk (st := s_Tiles_settle) l8 c8_ k8
  have F9 := fun_mk (st := s_Tiles_late) l9 c9_ k9
  have F10 := fun_mk (st := s_Tiles_fail) l10 c10_ k10
  have F11 := fun_mk (st := s_Tiles_start) l11 c11_ k11
  have F12 := fun_mk (st := s_Tiles_copy) l12 c12_ k12
  have F13 := fun_mk (st := s_law_cell) l13 c13_ k13
  have F14 := fun_mk (st := s_law_take) l14 c14_ k14
  have F15 := fun_mk (st := s_law_next) l15 c15_ k15
  have F16 := fun_mk (st := s_law_data) l16 c16_ k16
  have F17 := fun_mk (st := s_law_off) l17 c17_ k17
  have F18 := fun_mk (st := s_law_raised) l18 c18_ k18
  have F19 := fun_mk (st := s_law) l19 c19_ k19
  have B0 := F0.binds (ps := ["value", "least", "most"]) fun _ _ _ _ _ _ us hl => match us, hl with | [_, _, _], _ => rfl
  have B1 := F1.binds (ps := ["value"]) fun _ _ _ _ _ _ us hl => match us, hl with | [_], _ => rfl
  have B2 := F2.binds (ps := ["self", "count"]) fun _ _ _ _ _ _ us hl => match us, hl with | [_, _], _ => rfl
  have B3 := F3.binds (ps := ["self"]) fun _ _ _ _ _ _ us hl => match us, hl with | [_], _ => rfl
  have B4 := F4.binds (ps := ["self"]) fun _ _ _ _ _ _ us hl => match us, hl with | [_], _ => rfl
  have B5 := F5.binds (ps := ["self", "place"]) fun _ _ _ _ _ _ us hl => match us, hl with | [_, _], _ => rfl
  have B6 := F6.binds (ps := ["self", "place"]) fun _ _ _ _ _ _ us hl => match us, hl with | [_, _], _ => rfl
  have B7 := F7.binds (ps := ["self", "place", "data"]) fun _ _ _ _ _ _ us hl => match us, hl with | [_, _, _], _ => rfl
  have B8 := F8.binds (ps := ["self"]) fun _ _ _ _ _ _ us hl => match us, hl with | [_], _ => rfl
  have B9 := F9.binds (ps := ["self"]) fun _ _ _ _ _ _ us hl => match us, hl with | [_], _ => rfl
  have B10 := F10.binds (ps := ["self", "came"]) fun _ _ _ _ _ _ us hl => match us, hl with | [_, _], _ => rfl
  have B11 := F11.binds (ps := ["self"]) fun _ _ _ _ _ _ us hl => match us, hl with | [_], _ => rfl
  have B12 := F12.binds (ps := ["self"]) fun _ _ _ _ _ _ us hl => match us, hl with | [_], _ => rfl
  have B13 := F13.binds (ps := ["script", "k"]) fun _ _ _ _ _ _ us hl => match us, hl with | [_, _], _ => rfl
  have B14 := F14.binds (ps := ["state", "limit"]) fun _ _ _ _ _ _ us hl => match us, hl with | [_, _], _ => rfl
  have B15 := F15.binds (ps := ["state", "limit"]) fun _ _ _ _ _ _ us hl => match us, hl with | [_, _], _ => rfl
  have B16 := F16.binds (ps := ["state"]) fun _ _ _ _ _ _ us hl => match us, hl with | [_], _ => rfl
  have B17 := F17.binds (ps := ["disk"]) fun _ _ _ _ _ _ us hl => match us, hl with | [_], _ => rfl
  have B18 := F18.binds (ps := ["disk"]) fun _ _ _ _ _ _ us hl => match us, hl with | [_], _ => rfl
  have B19 := F19.binds (ps := ["script"]) fun _ _ _ _ _ _ us hl => match us, hl with | [_], _ => rfl
  let a : Ad := {
    f_is_number_of := f0, d_is_number_of := PySem.W.fnOf "is_number_of" "is_number_of" (defArgs s_is_number_of) (defBody s_is_number_of) (defScope s_is_number_of) .none kV0 dc0 pm0 an0 cd0 ct0,
    f_are_bytes := f1, d_are_bytes := PySem.W.fnOf "are_bytes" "are_bytes" (defArgs s_are_bytes) (defBody s_are_bytes) (defScope s_are_bytes) .none kV1 dc1 pm1 an1 cd1 ct1,
    f_Tiles_init__ := f2, d_Tiles_init__ := PySem.W.fnOf "__init__" "Tiles.__init__" (defArgs s_Tiles_init__) (defBody s_Tiles_init__) (defScope s_Tiles_init__) .none kV2 dc2 pm2 an2 cd2 ct2,
    f_Tiles_count := f3, d_Tiles_count := PySem.W.fnOf "count" "Tiles.count" (defArgs s_Tiles_count) (defBody s_Tiles_count) (defScope s_Tiles_count) .none kV3 dc3 pm3 an3 cd3 ct3,
    f_Tiles_has_power := f4, d_Tiles_has_power := PySem.W.fnOf "has_power" "Tiles.has_power" (defArgs s_Tiles_has_power) (defBody s_Tiles_has_power) (defScope s_Tiles_has_power) .none kV4 dc4 pm4 an4 cd4 ct4,
    f_Tiles__checked := f5, d_Tiles__checked := PySem.W.fnOf "_checked" "Tiles._checked" (defArgs s_Tiles__checked) (defBody s_Tiles__checked) (defScope s_Tiles__checked) .none kV5 dc5 pm5 an5 cd5 ct5,
    f_Tiles_get := f6, d_Tiles_get := PySem.W.fnOf "get" "Tiles.get" (defArgs s_Tiles_get) (defBody s_Tiles_get) (defScope s_Tiles_get) .none kV6 dc6 pm6 an6 cd6 ct6,
    f_Tiles_put := f7, d_Tiles_put := PySem.W.fnOf "put" "Tiles.put" (defArgs s_Tiles_put) (defBody s_Tiles_put) (defScope s_Tiles_put) .none kV7 dc7 pm7 an7 cd7 ct7,
    f_Tiles_settle := f8, d_Tiles_settle := PySem.W.fnOf "settle" "Tiles.settle" (defArgs s_Tiles_settle) (defBody s_Tiles_settle) (defScope s_Tiles_settle) .none kV8 dc8 pm8 an8 cd8 ct8,
    f_Tiles_late := f9, d_Tiles_late := PySem.W.fnOf "late" "Tiles.late" (defArgs s_Tiles_late) (defBody s_Tiles_late) (defScope s_Tiles_late) .none kV9 dc9 pm9 an9 cd9 ct9,
    f_Tiles_fail := f10, d_Tiles_fail := PySem.W.fnOf "fail" "Tiles.fail" (defArgs s_Tiles_fail) (defBody s_Tiles_fail) (defScope s_Tiles_fail) .none kV10 dc10 pm10 an10 cd10 ct10,
    f_Tiles_start := f11, d_Tiles_start := PySem.W.fnOf "start" "Tiles.start" (defArgs s_Tiles_start) (defBody s_Tiles_start) (defScope s_Tiles_start) .none kV11 dc11 pm11 an11 cd11 ct11,
    f_Tiles_copy := f12, d_Tiles_copy := PySem.W.fnOf "copy" "Tiles.copy" (defArgs s_Tiles_copy) (defBody s_Tiles_copy) (defScope s_Tiles_copy) .none kV12 dc12 pm12 an12 cd12 ct12,
    f_law_cell := f13, d_law_cell := PySem.W.fnOf "_law_cell" "_law_cell" (defArgs s_law_cell) (defBody s_law_cell) (defScope s_law_cell) .none kV13 dc13 pm13 an13 cd13 ct13,
    f_law_take := f14, d_law_take := PySem.W.fnOf "_law_take" "_law_take" (defArgs s_law_take) (defBody s_law_take) (defScope s_law_take) .none kV14 dc14 pm14 an14 cd14 ct14,
    f_law_next := f15, d_law_next := PySem.W.fnOf "_law_next" "_law_next" (defArgs s_law_next) (defBody s_law_next) (defScope s_law_next) .none kV15 dc15 pm15 an15 cd15 ct15,
    f_law_data := f16, d_law_data := PySem.W.fnOf "_law_data" "_law_data" (defArgs s_law_data) (defBody s_law_data) (defScope s_law_data) .none kV16 dc16 pm16 an16 cd16 ct16,
    f_law_off := f17, d_law_off := PySem.W.fnOf "_law_off" "_law_off" (defArgs s_law_off) (defBody s_law_off) (defScope s_law_off) .none kV17 dc17 pm17 an17 cd17 ct17,
    f_law_raised := f18, d_law_raised := PySem.W.fnOf "_law_raised" "_law_raised" (defArgs s_law_raised) (defBody s_law_raised) (defScope s_law_raised) .none kV18 dc18 pm18 an18 cd18 ct18,
    f_law := fa, d_law := PySem.W.fnOf "law" "law" (defArgs s_law) (defBody s_law) (defScope s_law) .none kV19 dc19 pm19 an19 cd19 ct19,
    C_InvalidArgument := C0,
    C_PowerOff := C1,
    C_Tiles := C2,
    c_SIZE := c0,
    c_MOST := c1,
    c_BLANK := c2 }
  have T : Txt K mg a := {
    f_is_number_of := F0, b_is_number_of := B0,
    g_is_number_of := PySem.W.mg_of X G a0,
    f_are_bytes := F1, b_are_bytes := B1,
    g_are_bytes := PySem.W.mg_of X G a1,
    f_Tiles_init__ := F2, b_Tiles_init__ := B2,
    m_Tiles_init__ := ⟨a2, i2, k2⟩,
    f_Tiles_count := F3, b_Tiles_count := B3,
    m_Tiles_count := ⟨a3, i3, k3⟩,
    f_Tiles_has_power := F4, b_Tiles_has_power := B4,
    m_Tiles_has_power := ⟨a4, i4, k4⟩,
    f_Tiles__checked := F5, b_Tiles__checked := B5,
    m_Tiles__checked := ⟨a5, i5, k5⟩,
    f_Tiles_get := F6, b_Tiles_get := B6,
    m_Tiles_get := ⟨a6, i6, k6⟩,
    f_Tiles_put := F7, b_Tiles_put := B7,
    m_Tiles_put := ⟨a7, i7, k7⟩,
    f_Tiles_settle := F8, b_Tiles_settle := B8,
    m_Tiles_settle := ⟨a8, i8, k8⟩,
    f_Tiles_late := F9, b_Tiles_late := B9,
    m_Tiles_late := ⟨a9, i9, k9⟩,
    f_Tiles_fail := F10, b_Tiles_fail := B10,
    m_Tiles_fail := ⟨a10, i10, k10⟩,
    f_Tiles_start := F11, b_Tiles_start := B11,
    m_Tiles_start := ⟨a11, i11, k11⟩,
    f_Tiles_copy := F12, b_Tiles_copy := B12,
    m_Tiles_copy := ⟨a12, i12, k12⟩,
    f_law_cell := F13, b_law_cell := B13,
    g__law_cell := PySem.W.mg_of X G a13,
    f_law_take := F14, b_law_take := B14,
    g__law_take := PySem.W.mg_of X G a14,
    f_law_next := F15, b_law_next := B15,
    g__law_next := PySem.W.mg_of X G a15,
    f_law_data := F16, b_law_data := B16,
    g__law_data := PySem.W.mg_of X G a16,
    f_law_off := F17, b_law_off := B17,
    g__law_off := PySem.W.mg_of X G a17,
    f_law_raised := F18, b_law_raised := B18,
    g__law_raised := PySem.W.mg_of X G a18,
    f_law := F19, b_law := B19,
    g_law := PySem.W.mg_of X G a19,
    g_InvalidArgument := PySem.W.mg_of X G gC0,
    x_InvalidArgument := xC0, k_InvalidArgument := kC0, sb_InvalidArgument := sbC0, ty_InvalidArgument := tyC0,
    g_PowerOff := PySem.W.mg_of X G gC1,
    x_PowerOff := xC1, k_PowerOff := kC1, sb_PowerOff := sbC1, ty_PowerOff := tyC1,
    g_Tiles := PySem.W.mg_of X G gC2,
    c_Tiles := ⟨pgC2, hdC2, poC2, saC2⟩,
    n_Tiles__sure := nC2_sure,
    n_Tiles__late := nC2_late,
    n_Tiles__power := nC2_power,
    mk_Tiles := ⟨mkC2, a2, i2, kcC2⟩,
    e_InvalidArgument_InvalidArgument := exm_of sbC0 icC0 tyC0 suC0C0,
    e_InvalidArgument_PowerOff := exm_of sbC1 icC1 tyC1 suC0C1,
    e_PowerOff_InvalidArgument := exm_of sbC0 icC0 tyC0 suC1C0,
    e_PowerOff_PowerOff := exm_of sbC1 icC1 tyC1 suC1C1,
    g_SIZE := PySem.W.mg_of X G gc0,
    r_SIZE := ⟨_, rfl⟩,
    g_MOST := PySem.W.mg_of X G gc1,
    r_MOST := ⟨_, rfl⟩,
    g_BLANK := PySem.W.mg_of X G gc2,
    r_BLANK := rfl,
    v_BLANK := con_tup lc2 vc2,
    z_abs := PySem.W.mg_none_of X G z_abs,
    z_bool := PySem.W.mg_none_of X G z_bool,
    z_int := PySem.W.mg_none_of X G z_int,
    z_isinstance := PySem.W.mg_none_of X G z_isinstance,
    z_len := PySem.W.mg_none_of X G z_len,
    z_list := PySem.W.mg_none_of X G z_list,
    z_range := PySem.W.mg_none_of X G z_range,
    z_tuple := PySem.W.mg_none_of X G z_tuple,
    z_zip := PySem.W.mg_none_of X G z_zip }
  exact ⟨_, fun s v => .of_eq rfl, fun base _ _ => ok_law T⟩
end Mine
open PySem PySem.W PyProof.Rows in
set_option maxRecDepth 100000 in
set_option maxHeartbeats 0 in
theorem PySem.Challenge.cw_askproved_k48_tiles_and_losses_of_power_holds : PySem.Challenge.rw_askproved_k48_tiles_and_losses_of_power.Holds := by
  w_on; o_law; k_head; (case hw => w_witness2)
  k_fill
  refine DL.walk (l := PySem.Challenge.rw_askproved_k48_tiles_and_losses_of_power) (k := 5) ⟨rfl, by decide, by decide⟩ rfl rfl (fun w h Y => PySem.W.kIn_of Y) ?F
  case F =>
    intro w mg fa h KX G hmg
    refine' Mine.all_mk KX G hmg ?gC0 ?gC1 ?gC2 ?a0 ?l0 ?c0_ ?k0 ?a1 ?l1 ?c1_ ?k1 ?a2 ?i2 ?l2 ?c2_ ?k2 ?a3 ?i3 ?l3 ?c3_ ?k3 ?a4 ?i4 ?l4 ?c4_ ?k4 ?a5 ?i5 ?l5 ?c5_ ?k5 ?a6 ?i6 ?l6 ?c6_ ?k6 ?a7 ?i7 ?l7 ?c7_ ?k7 ?a8 ?i8 ?l8 ?c8_ ?k8 ?a9 ?i9 ?l9 ?c9_ ?k9 ?a10 ?i10 ?l10 ?c10_ ?k10 ?a11 ?i11 ?l11 ?c11_ ?k11 ?a12 ?i12 ?l12 ?c12_ ?k12 ?a13 ?l13 ?c13_ ?k13 ?a14 ?l14 ?c14_ ?k14 ?a15 ?l15 ?c15_ ?k15 ?a16 ?l16 ?c16_ ?k16 ?a17 ?l17 ?c17_ ?k17 ?a18 ?l18 ?c18_ ?k18 ?a19 ?l19 ?c19_ ?k19 ?xC0 ?kC0 ?sbC0 ?tyC0 ?icC0 ?xC1 ?kC1 ?sbC1 ?tyC1 ?icC1 ?pgC2 ?hdC2 ?poC2 ?saC2 ?nC2_sure ?nC2_late ?nC2_power ?mkC2 ?kcC2 ?suC0C0 ?suC0C1 ?suC1C0 ?suC1C1 ?gc0 ?gc1 ?gc2 ?lc2 ?vc2 ?z_abs ?z_bool ?z_int ?z_isinstance ?z_len ?z_list ?z_range ?z_tuple ?z_zip
    (case gC0 => k_is)
    (case gC1 => k_is)
    (case gC2 => k_is)
    (case a0 => k_is)
    (case l0 => k_is)
    (case c0_ => k_is)
    (case k0 => k_is)
    (case a1 => k_is)
    (case l1 => k_is)
    (case c1_ => k_is)
    (case k1 => k_is)
    (case a2 => k_is)
    (case i2 => k_is)
    (case l2 => k_is)
    (case c2_ => k_is)
    (case k2 => k_is)
    (case a3 => k_is)
    (case i3 => k_is)
    (case l3 => k_is)
    (case c3_ => k_is)
    (case k3 => k_is)
    (case a4 => k_is)
    (case i4 => k_is)
    (case l4 => k_is)
    (case c4_ => k_is)
    (case k4 => k_is)
    (case a5 => k_is)
    (case i5 => k_is)
    (case l5 => k_is)
    (case c5_ => k_is)
    (case k5 => k_is)
    (case a6 => k_is)
    (case i6 => k_is)
    (case l6 => k_is)
    (case c6_ => k_is)
    (case k6 => k_is)
    (case a7 => k_is)
    (case i7 => k_is)
    (case l7 => k_is)
    (case c7_ => k_is)
    (case k7 => k_is)
    (case a8 => k_is)
    (case i8 => k_is)
    (case l8 => k_is)
    (case c8_ => k_is)
    (case k8 => k_is)
    (case a9 => k_is)
    (case i9 => k_is)
    (case l9 => k_is)
    (case c9_ => k_is)
    (case k9 => k_is)
    (case a10 => k_is)
    (case i10 => k_is)
    (case l10 => k_is)
    (case c10_ => k_is)
    (case k10 => k_is)
    (case a11 => k_is)
    (case i11 => k_is)
    (case l11 => k_is)
    (case c11_ => k_is)
    (case k11 => k_is)
    (case a12 => k_is)
    (case i12 => k_is)
    (case l12 => k_is)
    (case c12_ => k_is)
    (case k12 => k_is)
    (case a13 => k_is)
    (case l13 => k_is)
    (case c13_ => k_is)
    (case k13 => k_is)
    (case a14 => k_is)
    (case l14 => k_is)
    (case c14_ => k_is)
    (case k14 => k_is)
    (case a15 => k_is)
    (case l15 => k_is)
    (case c15_ => k_is)
    (case k15 => k_is)
    (case a16 => k_is)
    (case l16 => k_is)
    (case c16_ => k_is)
    (case k16 => k_is)
    (case a17 => k_is)
    (case l17 => k_is)
    (case c17_ => k_is)
    (case k17 => k_is)
    (case a18 => k_is)
    (case l18 => k_is)
    (case c18_ => k_is)
    (case k18 => k_is)
    (case a19 => k_is)
    (case l19 => k_is)
    (case c19_ => k_is)
    (case k19 => k_is)
    (case xC0 => k_exc)
    (case kC0 => k_is)
    (case sbC0 => k_is)
    (case tyC0 => k_is)
    (case icC0 => k_is)
    (case xC1 => k_exc)
    (case kC1 => k_is)
    (case sbC1 => k_is)
    (case tyC1 => k_is)
    (case icC1 => k_is)
    (case pgC2 => k_is)
    (case hdC2 => k_is)
    (case poC2 => k_is)
    (case saC2 => k_is)
    (case nC2_sure => k_is)
    (case nC2_late => k_is)
    (case nC2_power => k_is)
    (case mkC2 => k_is)
    (case kcC2 => k_is)
    (case suC0C0 => first | rfl | k_is)
    (case suC0C1 => first | rfl | k_is)
    (case suC1C0 => first | rfl | k_is)
    (case suC1C1 => first | rfl | k_is)
    (case gc0 => k_is)
    (case gc1 => k_is)
    (case gc2 => k_is)
    (case lc2 => k_is)
    (case vc2 => (refine ⟨by show 48 ≤ sizeLine; decide, List.replicate 48 (L2.V.int 0), ?_, fun F => Mine.dp_rep F 48⟩); repeat (first | exact PySem.Paired.nil | refine PySem.Paired.cons ⟨_, rfl⟩ ?_))
    (case z_abs => k_is)
    (case z_bool => k_is)
    (case z_int => k_is)
    (case z_isinstance => k_is)
    (case z_len => k_is)
    (case z_list => k_is)
    (case z_range => k_is)
    (case z_tuple => k_is)
    (case z_zip => k_is)

