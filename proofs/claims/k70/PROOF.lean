import PyProof.Rows.All
import Wide.All
import OpenK.AllK
import Wide.FinOn
import HandS.ForMost
import HandS.Evl
import HandS.TupAny
import HandS.Style
import HandS.DictComp
import HandS.IsInst
import HandS.SetFor
import KE.DataMinMax
import HandS.Strs
import HandS.Conv
import HandS.Wide
import PySem.Challenge.RW_knotwright_k70_whole_two_bridges_reckone
set_option Elab.async false
set_option linter.all false
set_option maxRecDepth 100000
set_option maxHeartbeats 4000000
/-! Data by value: what a slot holds is told as plain data, heap-free. -/
namespace KW
open PySem PySem.Spec PyProof.Rows L2 Evl

abbrev D := PyData
abbrev tI (xs : List Int) : D := .tuple (xs.map .int)
abbrev lI (xs : List Int) : D := .list (xs.map .int)
def kvD (p : Int × Int) : D × D := (.int p.1, .int p.2)
def kvV (p : Int × Int) : Key × V := (Sum.inl p.1, V.int p.2)
def dI (kvs : List (Int × Int)) : D := .dict (kvs.map kvD)

mutual
def noL : D → Bool
  | .none => true
  | .bool _ => true
  | .int _ => true
  | .str _ => true
  | .list _ => false
  | .tuple xs => noLs xs
  | .dict _ => false
def noLs : List D → Bool
  | [] => true
  | x :: xs => noL x && noLs xs
end
theorem noLs_all : ∀ {xs : List D}, noLs xs = true ↔ ∀ x ∈ xs, noL x = true
  | [] => by simp [noLs]
  | x :: xs => by simp [noLs, noLs_all (xs := xs)]
theorem noLs_map {α : Type} {f : α → D} (xs : List α) (h : ∀ x, noL (f x) = true) : noLs (xs.map f) = true := by
  rw [noLs_all]
  intro x hx
  obtain ⟨a, _, rfl⟩ := List.mem_map.mp hx
  exact h a
theorem noL_tI (xs : List Int) : noL (tI xs) = true := noLs_map xs fun _ => rfl
theorem noLs_ints (xs : List Int) : noLs (xs.map PyData.int) = true := noLs_map xs fun _ => rfl

/-! ### the relation of values and data -/
section
variable {K : PySem.W.Frag} {H H' : Hp}
mutual
theorem Dp.map (ft : ∀ a xs, SqT K H a xs → SqT K H' a xs) (fl : ∀ a xs, SqL K H a xs → SqL K H' a xs) : ∀ (d : D) (v : V), Dp K H v d → Dp K H' v d
  | .none, _, h => by cases h; exact .non
  | .bool b, _, h => by cases h; exact .bl _
  | .int i, _, h => by cases h; exact .int _
  | .str x, _, h => by cases h; exact .str _
  | .list ds, _, h => by
    cases h with
    | lst hs ha => exact .lst (fl _ _ hs) (DpAll.map ft fl ds _ ha)
  | .tuple ds, _, h => by
    cases h with
    | tup hs ha => exact .tup (ft _ _ hs) (DpAll.map ft fl ds _ ha)
  | .dict _, _, h => by cases h
theorem DpAll.map (ft : ∀ a xs, SqT K H a xs → SqT K H' a xs) (fl : ∀ a xs, SqL K H a xs → SqL K H' a xs) : ∀ (ds : List D) (vs : List V), DpAll K H vs ds → DpAll K H' vs ds
  | [], _, h => by cases h; exact .nil
  | d :: ds, _, h => by
    cases h with
    | cons h1 h2 => exact .cons (Dp.map ft fl d _ h1) (DpAll.map ft fl ds _ h2)
end
mutual
theorem Dp.mapT (ft : ∀ a xs, SqT K H a xs → SqT K H' a xs) : ∀ (d : D) (v : V), noL d = true → Dp K H v d → Dp K H' v d
  | .none, _, _, h => by cases h; exact .non
  | .bool b, _, _, h => by cases h; exact .bl _
  | .int i, _, _, h => by cases h; exact .int _
  | .str x, _, _, h => by cases h; exact .str _
  | .list ds, _, n, h => by simp [noL] at n
  | .tuple ds, _, n, h => by
    cases h with
    | tup hs ha => exact .tup (ft _ _ hs) (DpAll.mapT ft ds _ (by simpa [noL] using n) ha)
  | .dict _, _, _, h => by cases h
theorem DpAll.mapT (ft : ∀ a xs, SqT K H a xs → SqT K H' a xs) : ∀ (ds : List D) (vs : List V), noLs ds = true → DpAll K H vs ds → DpAll K H' vs ds
  | [], _, _, h => by cases h; exact .nil
  | d :: ds, _, n, h => by
    cases h with
    | cons h1 h2 =>
      simp only [noLs, Bool.and_eq_true] at n
      exact .cons (Dp.mapT ft d _ n.1 h1) (DpAll.mapT ft ds _ n.2 h2)
end
theorem Dp.mono {v : V} {d : D} (e : Ex H H') (h : Dp K H v d) : Dp K H' v d := Dp.map (fun _ _ => ex_t e) (fun _ _ => ex_l e) d v h
theorem DpAll.mono {vs : List V} {ds : List D} (e : Ex H H') (h : DpAll K H vs ds) : DpAll K H' vs ds := DpAll.map (fun _ _ => ex_t e) (fun _ _ => ex_l e) ds vs h
theorem DpAll.length : ∀ {vs : List V} {ds : List D}, DpAll K H vs ds → vs.length = ds.length
  | _, [], .nil => rfl
  | _, _ :: _, .cons _ h => by simp [DpAll.length h]
theorem DpAll.get : ∀ {vs : List V} {ds : List D} {j : Nat} {d : D}, DpAll K H vs ds → ds[j]? = some d → ∃ v, vs[j]? = some v ∧ Dp K H v d
  | _, [], j, d, .nil, e => by simp at e
  | _, _ :: _, 0, d, .cons h _, e => by simp at e; subst e; exact ⟨_, rfl, h⟩
  | _, _ :: _, j + 1, d, .cons _ h, e => by
    obtain ⟨v, h1, h2⟩ := DpAll.get (j := j) (d := d) h (by simpa using e)
    exact ⟨v, by simpa using h1, h2⟩
theorem DpAll.get' {vs : List V} {ds : List D} {j : Nat} {v : V} (h : DpAll K H vs ds) (e : vs[j]? = some v) : ∃ d, ds[j]? = some d ∧ Dp K H v d := by
  have hl := DpAll.length h
  obtain ⟨hj, _⟩ := List.getElem?_eq_some_iff.mp e
  have hj' : j < ds.length := by omega
  obtain ⟨v', h1, h2⟩ := DpAll.get (j := j) (d := ds[j]) h (List.getElem?_eq_getElem hj')
  rw [e] at h1
  cases h1
  exact ⟨_, List.getElem?_eq_getElem hj', h2⟩
theorem DpAll.append : ∀ {vs ws : List V} {ds es : List D}, DpAll K H vs ds → DpAll K H ws es → DpAll K H (vs ++ ws) (ds ++ es)
  | _, _, [], _, .nil, h => h
  | _, _, _ :: _, _, .cons a b, h => .cons a (DpAll.append b h)
theorem DpAll.set : ∀ {vs : List V} {ds : List D} (j : Nat) {v : V} {d : D}, DpAll K H vs ds → Dp K H v d → DpAll K H (vs.set j v) (ds.set j d)
  | _, [], _, _, _, .nil, _ => .nil
  | _, _ :: _, 0, _, _, .cons _ b, h => .cons h b
  | _, _ :: _, j + 1, _, _, .cons a b, h => .cons a (DpAll.set j b h)
theorem DpAll.drop : ∀ {vs : List V} {ds : List D} (n : Nat), DpAll K H vs ds → DpAll K H (vs.drop n) (ds.drop n)
  | _, _, 0, h => h
  | _, [], _ + 1, .nil => .nil
  | _, _ :: _, n + 1, .cons _ b => DpAll.drop n b
theorem DpAll.take : ∀ {vs : List V} {ds : List D} (n : Nat), DpAll K H vs ds → DpAll K H (vs.take n) (ds.take n)
  | _, _, 0, h => .nil
  | _, [], _ + 1, .nil => .nil
  | _, _ :: _, n + 1, .cons a b => .cons a (DpAll.take n b)
theorem DpAll.reverse {vs : List V} {ds : List D} (h : DpAll K H vs ds) : DpAll K H vs.reverse ds.reverse := by
  induction ds generalizing vs with
  | nil => cases h; exact .nil
  | cons d ds ih =>
    cases h with
    | cons a b =>
      rw [List.reverse_cons, List.reverse_cons]
      exact DpAll.append (ih b) (.cons a .nil)
theorem DpAll.rep {vs : List V} {ds : List D} (h : DpAll K H vs ds) : ∀ k : Nat, DpAll K H (List.replicate k vs).flatten (List.replicate k ds).flatten
  | 0 => .nil
  | k + 1 => by
    rw [List.replicate_succ, List.replicate_succ, List.flatten_cons, List.flatten_cons]
    exact DpAll.append h (DpAll.rep h k)
theorem DpAll.ints : ∀ {vs : List V} {ns : List Int}, DpAll K H vs (ns.map PyData.int) → vs = ns.map V.int
  | _, [], .nil => rfl
  | _, n :: ns, .cons a b => by
    cases a
    rw [DpAll.ints b]
    rfl
theorem DpAll.of_ints : ∀ ns : List Int, DpAll K H (ns.map V.int) (ns.map PyData.int)
  | [] => .nil
  | _ :: ns => .cons (.int _) (DpAll.of_ints ns)
theorem DpAll.bls : ∀ {vs : List V} {ns : List Bool}, DpAll K H vs (ns.map PyData.bool) → vs = ns.map V.bl
  | _, [], .nil => rfl
  | _, n :: ns, .cons a b => by
    cases a
    rw [DpAll.bls b]
    rfl

def Rp (K : PySem.W.Frag) (H : Hp) (v : V) (d : D) : Prop := Dp K H v d ∨ ∃ a kvs, v = .ref a ∧ d = dI kvs ∧ H a = some (.dK (kvs.map kvV))
theorem Rp.mono {v : V} {d : D} (e : Ex H H') (h : Rp K H v d) : Rp K H' v d := by
  rcases h with h | ⟨a, kvs, h1, h2, h3⟩
  · exact .inl (Dp.mono e h)
  · exact .inr ⟨a, kvs, h1, h2, e _ _ h3⟩
def isDict : D → Bool
  | .dict _ => true
  | _ => false
theorem Rp.dp {v : V} {d : D} (h : Rp K H v d) (n : isDict d = false) : Dp K H v d := by
  rcases h with h | ⟨a, kvs, h1, h2, h3⟩
  · exact h
  · subst h2
    simp [dI, isDict] at n
theorem Rp.int {v : V} {i : Int} (h : Rp K H v (.int i)) : v = .int i := by cases h.dp rfl; rfl
theorem Rp.bool {v : V} {i : Bool} (h : Rp K H v (.bool i)) : v = .bl i := by cases h.dp rfl; rfl
theorem Rp.str {v : V} {i : Str} (h : Rp K H v (.str i)) : v = .str i := by cases h.dp rfl; rfl
theorem Rp.none {v : V} (h : Rp K H v .none) : v = .non := by cases h.dp rfl; rfl
theorem Rp.tup {v : V} {ds : List D} (h : Rp K H v (.tuple ds)) : ∃ a vs, v = .ref a ∧ SqT K H a vs ∧ DpAll K H vs ds := by
  have h := h.dp rfl
  cases h with
  | tup a b => exact ⟨_, _, rfl, a, b⟩
theorem Rp.lst {v : V} {ds : List D} (h : Rp K H v (.list ds)) : ∃ a vs, v = .ref a ∧ SqL K H a vs ∧ DpAll K H vs ds := by
  have h := h.dp rfl
  cases h with
  | lst a b => exact ⟨_, _, rfl, a, b⟩
theorem kvD_inj {a b : List (Int × Int)} (h : a.map kvD = b.map kvD) : a = b := by
  induction a generalizing b with
  | nil => cases b with
    | nil => rfl
    | cons _ _ => simp at h
  | cons x xs ih => cases b with
    | nil => simp at h
    | cons y ys =>
      simp only [List.map_cons, List.cons.injEq, kvD, Prod.mk.injEq, PyData.int.injEq] at h
      obtain ⟨⟨h1, h2⟩, h3⟩ := h
      rw [ih h3]
      obtain ⟨x1, x2⟩ := x
      obtain ⟨y1, y2⟩ := y
      simp only at h1 h2
      rw [h1, h2]
theorem Rp.dict {v : V} {kvs : List (Int × Int)} (h : Rp K H v (dI kvs)) : ∃ a, v = .ref a ∧ H a = some (.dK (kvs.map kvV)) := by
  rcases h with h | ⟨a, kvs', h1, h2, h3⟩
  · cases h
  · have e := kvD_inj (PyData.dict.inj h2)
    subst e
    exact ⟨a, h1, h3⟩
theorem Rp.mapT (ft : ∀ a xs, SqT K H a xs → SqT K H' a xs) {v : V} {d : D} (n : noL d = true) (h : Rp K H v d) : Rp K H' v d :=
  .inl (Dp.mapT ft d v n (h.dp (by cases d <;> first | rfl | simp [noL] at n)))
abbrev RpAll (K : PySem.W.Frag) (H : Hp) : List V → List D → Prop := Paired (Rp K H)
theorem RpAll.mono : ∀ {vs : List V} {ds : List D}, Ex H H' → RpAll K H vs ds → RpAll K H' vs ds
  | _, _, _, .nil => .nil
  | _, _, e, .cons a b => .cons (a.mono e) (RpAll.mono e b)
theorem DpAll.rp : ∀ {vs : List V} {ds : List D}, DpAll K H vs ds → RpAll K H vs ds
  | _, [], .nil => .nil
  | _, _ :: _, .cons a b => .cons (.inl a) (DpAll.rp b)
def noDs (ds : List D) : Bool := ds.all fun d => !isDict d
theorem RpAll.dp : ∀ {vs : List V} {ds : List D}, noDs ds = true → RpAll K H vs ds → DpAll K H vs ds
  | _, _, _, .nil => .nil
  | _, d :: ds, n, .cons a b => by
    simp only [noDs, List.all_cons, Bool.and_eq_true, Bool.not_eq_true'] at n
    exact .cons (a.dp n.1) (RpAll.dp (by simpa [noDs] using n.2) b)
end

/-! ### slots by data -/
abbrev G := List (Option D)
def EnvOk (K : PySem.W.Frag) (H : Hp) (σ : L2.St) (Γ : G) : Prop := Γ.length = σ.length ∧ ∀ (i : Nat) (d : D), Γ[i]? = some (some d) → ∃ v, σ[i]? = some (some v) ∧ Rp K H v d
theorem EnvOk.mono {K : PySem.W.Frag} {H H' : Hp} {σ : L2.St} {Γ : G} (e : Ex H H') (h : EnvOk K H σ Γ) : EnvOk K H' σ Γ := ⟨h.1, fun i d q => let ⟨v, a, b⟩ := h.2 i d q; ⟨v, a, b.mono e⟩⟩
theorem EnvOk.set {K : PySem.W.Frag} {H : Hp} {σ : L2.St} {Γ : G} {j : Nat} {v : V} {d : D} (h : EnvOk K H σ Γ) (r : Rp K H v d) : EnvOk K H (σ.set j (some v)) (Γ.set j (some d)) := by
  refine ⟨by simp [h.1], fun i e q => ?_⟩
  by_cases hij : j = i
  · subst hij
    by_cases hj : j < Γ.length
    · rw [List.getElem?_set_self hj] at q
      cases q
      exact ⟨v, by rw [List.getElem?_set_self (by rw [← h.1]; exact hj)], r⟩
    · rw [List.getElem?_eq_none (by simpa using hj)] at q
      cases q
  · rw [List.getElem?_set_ne hij] at q
    rw [List.getElem?_set_ne hij]
    exact h.2 i e q
def wipeG (Γ : G) : List Nat → G
  | [] => Γ
  | v :: vs => (wipeG Γ vs).set v none
theorem wipeG_length (Γ : G) : ∀ vs : List Nat, (wipeG Γ vs).length = Γ.length
  | [] => rfl
  | v :: vs => by unfold wipeG; rw [List.length_set, wipeG_length Γ vs]
theorem wipe_get {σ : L2.St} {i : Nat} : ∀ {vs : List Nat}, i ∉ vs → (wipe σ vs)[i]? = σ[i]?
  | [], _ => rfl
  | v :: vs, h => by
    simp only [List.mem_cons, not_or] at h
    unfold wipe
    rw [List.getElem?_set_ne (Ne.symm h.1)]
    exact wipe_get h.2
theorem wipeG_some {Γ : G} {i : Nat} {d : D} : ∀ {vs : List Nat}, (wipeG Γ vs)[i]? = some (some d) → Γ[i]? = some (some d) ∧ i ∉ vs
  | [], h => ⟨h, by simp⟩
  | v :: vs, h => by
    unfold wipeG at h
    by_cases hi : v = i
    · subst hi
      by_cases hv : v < (wipeG Γ vs).length
      · rw [List.getElem?_set_self hv] at h; cases h
      · rw [List.getElem?_eq_none (by simpa using hv)] at h; cases h
    · rw [List.getElem?_set_ne hi] at h
      obtain ⟨h1, h2⟩ := wipeG_some h
      exact ⟨h1, by simp only [List.mem_cons, not_or]; exact ⟨fun e => hi e.symm, h2⟩⟩
theorem EnvOk.wipe {K : PySem.W.Frag} {H : Hp} {σ : L2.St} {Γ : G} (vs : List Nat) (h : EnvOk K H σ Γ) : EnvOk K H (wipe σ vs) (wipeG Γ vs) := by
  refine ⟨by rw [wipe_length, wipeG_length]; exact h.1, fun i d q => ?_⟩
  obtain ⟨q1, q2⟩ := wipeG_some q
  obtain ⟨v, a, b⟩ := h.2 i d q1
  exact ⟨v, by rw [wipe_get q2]; exact a, b⟩
theorem wipe_mem {σ : L2.St} {i : Nat} : ∀ {vs : List Nat}, i ∈ vs → i < σ.length → (wipe σ vs)[i]? = some none
  | v :: vs, h, hl => by
    unfold wipe
    by_cases hi : v = i
    · subst hi
      rw [List.getElem?_set_self (by rw [wipe_length]; exact hl)]
    · rw [List.getElem?_set_ne hi]
      rcases List.mem_cons.mp h with e | e
      · exact absurd e.symm hi
      · exact wipe_mem e hl
/-- what agrees outside of vs is wiped to the same -/
theorem wipe_eq {σ τ : L2.St} {vs : List Nat} (hl : τ.length = σ.length) (h : ∀ i : Nat, i ∉ vs → τ[i]? = σ[i]?) : wipe τ vs = wipe σ vs := by
  apply List.ext_getElem?
  intro i
  by_cases hi : i ∈ vs
  · by_cases hb : i < σ.length
    · rw [wipe_mem hi hb, wipe_mem hi (by rw [hl]; exact hb)]
    · rw [List.getElem?_eq_none (by rw [wipe_length, hl]; omega), List.getElem?_eq_none (by rw [wipe_length]; omega)]
  · rw [wipe_get hi, wipe_get hi, h i hi]

/-! ### what evaluates to what data -/
section
variable (K : PySem.W.Frag)
def EvR (te : TE) (Γ : G) (d : D) : Prop := ∀ σ H, EnvOk K H σ Γ → ∀ Q : VK, (∀ v H', Ex H H' → Rp K H' v d → Q v H') → te σ H Q
/-- a new list -/
def EvF (te : TE) (Γ : G) (ds : List D) : Prop := ∀ σ H, EnvOk K H σ Γ → ∀ Q : VK, (∀ p vs H', H p = none → Ex H H' → H' p = some (.lst vs) → DpAll K H' vs ds → Q (.ref p) H') → te σ H Q
/-- a new dict of ints by ints -/
def EvD (te : TE) (Γ : G) (kvs : List (Int × Int)) : Prop := ∀ σ H, EnvOk K H σ Γ → ∀ Q : VK, (∀ p H', H p = none → Ex H H' → H' p = some (.dK (kvs.map kvV)) → Q (.ref p) H') → te σ H Q
def EvB (tt : TT) (Γ : G) (b : Bool) : Prop := ∀ σ H, EnvOk K H σ Γ → ∀ Q : Bool → Hp → Prop, (∀ H', Ex H H' → Q b H') → tt σ H Q
def EvAs (ta : TA) (Γ : G) (ds : List D) : Prop := ∀ σ H, EnvOk K H σ Γ → ∀ Q : List V → Hp → Prop, (∀ vs H', Ex H H' → RpAll K H' vs ds → Q vs H') → ta σ H Q
def EvP (to : TO) (Γ : G) (o : Option Int) : Prop := ∀ σ H, EnvOk K H σ Γ → ∀ Q : Option Int → Hp → Prop, (∀ H', Ex H H' → Q o H') → to σ H Q
end
section
variable {K : PySem.W.Frag} {Γ : G} {ta tb tc te : TE} {t u : TT} {d e f : D} {b c : Bool} {i j : Int}
theorem EvF.r {ds : List D} (h : EvF K te Γ ds) : EvR K te Γ (.list ds) := fun σ H E Q q => h σ H E Q fun p vs H' _ e2 e3 e4 => q _ H' e2 (.inl (.lst (sq_of e3) e4))
theorem EvD.r {kvs : List (Int × Int)} (h : EvD K te Γ kvs) : EvR K te Γ (dI kvs) := fun σ H E Q q => h σ H E Q fun p H' _ e2 e3 => q _ H' e2 (.inr ⟨p, kvs, rfl, rfl, e3⟩)
theorem EvR.to (h : EvR K te Γ d) (q : d = e) : EvR K te Γ e := q ▸ h
theorem EvB.to (h : EvB K t Γ b) (q : b = c) : EvB K t Γ c := q ▸ h
theorem EvF.to {ds es : List D} (h : EvF K te Γ ds) (q : ds = es) : EvF K te Γ es := q ▸ h
theorem ev_var {i : Nat} (h : Γ[i]? = some (some d)) : EvR K (tVar i) Γ d := fun σ H E Q q => let ⟨v, a, r⟩ := E.2 i d h; ⟨v, a, q v H (Ex.refl H) r⟩
theorem ev_int : EvR K (tC (.int i)) Γ (.int i) := fun σ H E Q q => q _ H (Ex.refl H) (.inl (.int i))
theorem ev_bool : EvR K (tC (.bl b)) Γ (.bool b) := fun σ H E Q q => q _ H (Ex.refl H) (.inl (.bl b))
theorem ev_str {x : Str} : EvR K (tC (.str x)) Γ (.str x) := fun σ H E Q q => q _ H (Ex.refl H) (.inl (.str x))
theorem ev_none : EvR K (tC .non) Γ .none := fun σ H E Q q => q _ H (Ex.refl H) (.inl .non)
/-- two places, by values -/
theorem ev_op {r : R2} (ha : EvR K ta Γ d) (hb : EvR K tb Γ e) (hr : ∀ x y H, Rp K H x d → Rp K H y e → ∀ Q : VK, (∀ v H', Ex H H' → Rp K H' v f → Q v H') → r x y H Q) : EvR K (tOp r ta tb) Γ f := fun σ H E Q q =>
  ha σ H E _ fun x H1 e1 r1 => hb σ H1 (E.mono e1) _ fun y H2 e2 r2 => hr x y H2 (r1.mono e2) r2 Q fun v H' e3 r3 => q v H' ((e1.trans e2).trans e3) r3
theorem ef_op {r : R2} {ds : List D} (ha : EvR K ta Γ d) (hb : EvR K tb Γ e) (hr : ∀ x y H, Rp K H x d → Rp K H y e → ∀ Q : VK, (∀ p vs H', H p = none → Ex H H' → H' p = some (.lst vs) → DpAll K H' vs ds → Q (.ref p) H') → r x y H Q) : EvF K (tOp r ta tb) Γ ds := fun σ H E Q q =>
  ha σ H E _ fun x H1 e1 r1 => hb σ H1 (E.mono e1) _ fun y H2 e2 r2 => hr x y H2 (r1.mono e2) r2 Q fun p vs H' n e3 h3 r3 => q p vs H' (fresh_back (e1.trans e2) n) ((e1.trans e2).trans e3) h3 r3
def VD : V → D
  | .non => .none
  | .bl b => .bool b
  | .int i => .int i
  | .str x => .str x
  | _ => .none
def flatVD : V → Bool
  | .non => true
  | .bl b => true
  | .int i => true
  | .str x => true
  | _ => false
theorem rp_VD {H : Hp} : ∀ {v : V}, flatVD v = true → Rp K H v (VD v)
  | .non, _ => .inl .non
  | .bl b, _ => .inl (.bl b)
  | .int i, _ => .inl (.int i)
  | .str x, _ => .inl (.str x)
theorem ev_I0 {g : Int → Int → V} (ha : EvR K ta Γ (.int i)) (hb : EvR K tb Γ (.int j)) (hf : flatVD (g i j) = true) : EvR K (tOp (rI0 g) ta tb) Γ (VD (g i j)) :=
  ev_op ha hb fun x y H r1 r2 Q q => ⟨i, j, r1.int, r2.int, q _ H (Ex.refl H) (rp_VD hf)⟩
theorem ev_I {C : Int → Int → Prop} {g : Int → Int → V} (ha : EvR K ta Γ (.int i)) (hb : EvR K tb Γ (.int j)) (hf : flatVD (g i j) = true) (hc : C i j) : EvR K (tOp (rI C g) ta tb) Γ (VD (g i j)) :=
  ev_op ha hb fun x y H r1 r2 Q q => ⟨i, j, r1.int, r2.int, hc, q _ H (Ex.refl H) (rp_VD hf)⟩
theorem ev_add (ha : EvR K ta Γ (.int i)) (hb : EvR K tb Γ (.int j)) : EvR K (tOp (rI0 fun i j => .int (i + j)) ta tb) Γ (.int (i + j)) := ev_I0 ha hb rfl
theorem ev_sub (ha : EvR K ta Γ (.int i)) (hb : EvR K tb Γ (.int j)) : EvR K (tOp (rI0 fun i j => .int (i - j)) ta tb) Γ (.int (i - j)) := ev_I0 ha hb rfl
theorem ev_lt (ha : EvR K ta Γ (.int i)) (hb : EvR K tb Γ (.int j)) : EvR K (tOp (rI0 fun i j => .bl (decide (i < j))) ta tb) Γ (.bool (decide (i < j))) := ev_I0 ha hb rfl
theorem ev_le (ha : EvR K ta Γ (.int i)) (hb : EvR K tb Γ (.int j)) : EvR K (tOp (rI0 fun i j => .bl (decide (i ≤ j))) ta tb) Γ (.bool (decide (i ≤ j))) := ev_I0 ha hb rfl
theorem ev_gt (ha : EvR K ta Γ (.int i)) (hb : EvR K tb Γ (.int j)) : EvR K (tOp (rI0 fun i j => .bl (decide (j < i))) ta tb) Γ (.bool (decide (j < i))) := ev_I0 ha hb rfl
theorem ev_ge (ha : EvR K ta Γ (.int i)) (hb : EvR K tb Γ (.int j)) : EvR K (tOp (rI0 fun i j => .bl (decide (j ≤ i))) ta tb) Γ (.bool (decide (j ≤ i))) := ev_I0 ha hb rfl
theorem ev_mul (ha : EvR K ta Γ (.int i)) (hb : EvR K tb Γ (.int j)) (hc : CMul i j) : EvR K (tOp (rI CMul fun i j => .int (i * j)) ta tb) Γ (.int (i * j)) := ev_I ha hb rfl hc
theorem ev_mod (ha : EvR K ta Γ (.int i)) (hb : EvR K tb Γ (.int j)) (hc : 0 < j) : EvR K (tOp (rI (fun _ j => 0 < j) fun i j => .int (i % j)) ta tb) Γ (.int (i % j)) := ev_I ha hb rfl hc
theorem ev_fdiv (ha : EvR K ta Γ (.int i)) (hb : EvR K tb Γ (.int j)) (hc : CDiv i j) : EvR K (tOp (rI CDiv fun i j => .int (i / j)) ta tb) Γ (.int (i / j)) := ev_I ha hb rfl hc
theorem ev_pow (ha : EvR K ta Γ (.int i)) (hb : EvR K tb Γ (.int j)) (hc : CPow i j) : EvR K (tOp (rI CPow fun i j => .int (i ^ j.toNat)) ta tb) Γ (.int (i ^ j.toNat)) := ev_I ha hb rfl hc
theorem ev_eqI (ha : EvR K ta Γ (.int i)) (hb : EvR K tb Γ (.int j)) : EvR K (tOp rEq ta tb) Γ (.bool (decide (i = j))) :=
  ev_op ha hb fun x y H r1 r2 Q q => by
    rw [r1.int, r2.int]
    refine ⟨rfl, q _ H (Ex.refl H) (.inl ?_)⟩
    rw [show decide (V.int i = V.int j) = decide (i = j) by simp]
    exact .bl _
theorem ev_neI (ha : EvR K ta Γ (.int i)) (hb : EvR K tb Γ (.int j)) : EvR K (tOp rNe ta tb) Γ (.bool (!decide (i = j))) :=
  ev_op ha hb fun x y H r1 r2 Q q => by
    rw [r1.int, r2.int]
    refine ⟨rfl, q _ H (Ex.refl H) (.inl ?_)⟩
    rw [show decide (V.int i = V.int j) = decide (i = j) by simp]
    exact .bl _
theorem ev_eqS {x y : Str} (ha : EvR K ta Γ (.str x)) (hb : EvR K tb Γ (.str y)) : EvR K (tOp rEq ta tb) Γ (.bool (decide (x = y))) :=
  ev_op ha hb fun x' y' H r1 r2 Q q => by
    rw [r1.str, r2.str]
    refine ⟨rfl, q _ H (Ex.refl H) (.inl ?_)⟩
    rw [show decide (V.str x = V.str y) = decide (x = y) by simp]
    exact .bl _
theorem ev_neS {x y : Str} (ha : EvR K ta Γ (.str x)) (hb : EvR K tb Γ (.str y)) : EvR K (tOp rNe ta tb) Γ (.bool (!decide (x = y))) :=
  ev_op ha hb fun x' y' H r1 r2 Q q => by
    rw [r1.str, r2.str]
    refine ⟨rfl, q _ H (Ex.refl H) (.inl ?_)⟩
    rw [show decide (V.str x = V.str y) = decide (x = y) by simp]
    exact .bl _
theorem ev_eqB {x y : Bool} (ha : EvR K ta Γ (.bool x)) (hb : EvR K tb Γ (.bool y)) : EvR K (tOp rEq ta tb) Γ (.bool (decide (x = y))) :=
  ev_op ha hb fun x' y' H r1 r2 Q q => by
    rw [r1.bool, r2.bool]
    refine ⟨rfl, q _ H (Ex.refl H) (.inl ?_)⟩
    rw [show decide (V.bl x = V.bl y) = decide (x = y) by simp]
    exact .bl _
theorem ev_neB {x y : Bool} (ha : EvR K ta Γ (.bool x)) (hb : EvR K tb Γ (.bool y)) : EvR K (tOp rNe ta tb) Γ (.bool (!decide (x = y))) :=
  ev_op ha hb fun x' y' H r1 r2 Q q => by
    rw [r1.bool, r2.bool]
    refine ⟨rfl, q _ H (Ex.refl H) (.inl ?_)⟩
    rw [show decide (V.bl x = V.bl y) = decide (x = y) by simp]
    exact .bl _
/-- == of data -/
theorem ev_eqD (ha : EvR K ta Γ d) (hb : EvR K tb Γ e) (nd : isDict d = false) (ne : isDict e = false) (sd : SeqAt.shaped d = true) (se : SeqAt.shaped e = true) : EvR K (tOp (rEqD K) ta tb) Γ (.bool (PyData.eqv d e)) :=
  ev_op ha hb fun x y H r1 r2 Q q => ⟨d, e, r1.dp nd, r2.dp ne, sd, se, q _ H (Ex.refl H) (.inl (.bl _))⟩
theorem ev_neD (ha : EvR K ta Γ d) (hb : EvR K tb Γ e) (nd : isDict d = false) (ne : isDict e = false) (sd : SeqAt.shaped d = true) (se : SeqAt.shaped e = true) : EvR K (tOp (rNeD K) ta tb) Γ (.bool (!PyData.eqv d e)) :=
  ev_op ha hb fun x y H r1 r2 Q q => ⟨d, e, r1.dp nd, r2.dp ne, sd, se, q _ H (Ex.refl H) (.inl (.bl _))⟩
theorem DpAll.atI {H : Hp} {vs : List V} {ds : List D} {k : Int} (h : DpAll K H vs ds) (a : atI ds k = some d) : ∃ v, L2.atI vs k = some v ∧ Dp K H v d := by
  unfold L2.atI at a ⊢
  rw [DpAll.length h]
  cases q : ixN ds.length k with
  | none => rw [q] at a; cases a
  | some m =>
    rw [q] at a
    exact DpAll.get h a
theorem ev_ixT {ds : List D} (ha : EvR K ta Γ (.tuple ds)) (hb : EvR K tb Γ (.int i)) (h : atI ds i = some d) : EvR K (tOp (rIxT K) ta tb) Γ d :=
  ev_op ha hb fun x y H r1 r2 Q q => by
    obtain ⟨a, vs, rfl, hs, hd⟩ := r1.tup
    obtain ⟨v, h1, h2⟩ := DpAll.atI hd h
    exact ⟨a, vs, i, v, rfl, r2.int, hs, h1, q v H (Ex.refl H) (.inl h2)⟩
theorem ev_ixL {ds : List D} (ha : EvR K ta Γ (.list ds)) (hb : EvR K tb Γ (.int i)) (h : atI ds i = some d) : EvR K (tOp (rIxL K) ta tb) Γ d :=
  ev_op ha hb fun x y H r1 r2 Q q => by
    obtain ⟨a, vs, rfl, hs, hd⟩ := r1.lst
    obtain ⟨v, h1, h2⟩ := DpAll.atI hd h
    exact ⟨a, vs, i, v, rfl, r2.int, hs, h1, q v H (Ex.refl H) (.inl h2)⟩
theorem ev_neg (ha : EvR K ta Γ (.int i)) : EvR K (tUn (rU fun i => .int (-i)) ta) Γ (.int (-i)) := fun σ H E Q q => ha σ H E _ fun v H1 e1 r1 => ⟨i, r1.int, q _ H1 e1 (.inl (.int _))⟩
/-! tests -/
theorem eb_test (h : EvR K te Γ (.bool b)) : EvB K (tTest te) Γ b := fun σ H E Q q => h σ H E _ fun v H1 e1 r1 => ⟨b, r1.bool, q H1 e1⟩
theorem eb_B (h : EvR K te Γ (.bool b)) : EvB K (tB te) Γ b := fun σ H E Q q => h σ H E _ fun v H1 e1 r1 => ⟨b, r1.bool, q H1 e1⟩
theorem eb_and (h1 : EvB K t Γ b) (h2 : b = true → EvB K u Γ c) : EvB K (tAnd t u) Γ (b && c) := fun σ H E Q q => h1 σ H E _ fun H1 e1 => by
  cases b with
  | true =>
    show u σ H1 Q
    exact h2 rfl σ H1 (E.mono e1) Q fun H2 e2 => q H2 (e1.trans e2)
  | false =>
    show Q false H1
    exact q H1 e1
theorem eb_or (h1 : EvB K t Γ b) (h2 : b = false → EvB K u Γ c) : EvB K (tOr t u) Γ (b || c) := fun σ H E Q q => h1 σ H E _ fun H1 e1 => by
  cases b with
  | true =>
    show Q true H1
    exact q H1 e1
  | false =>
    show u σ H1 Q
    exact h2 rfl σ H1 (E.mono e1) Q fun H2 e2 => q H2 (e1.trans e2)
theorem eb_not (h : EvB K t Γ b) : EvB K (tNot t) Γ (!b) := fun σ H E Q q => h σ H E _ fun H1 e1 => q H1 e1
theorem ev_and (h1 : EvR K ta Γ (.bool b)) (h2 : b = true → EvR K tb Γ (.bool c)) : EvR K (tAndV ta tb) Γ (.bool (b && c)) := fun σ H E Q q => h1 σ H E _ fun v H1 e1 r1 => ⟨b, r1.bool, by
  cases b with
  | true =>
    show tb σ H1 Q
    exact h2 rfl σ H1 (E.mono e1) Q fun v H2 e2 r2 => q v H2 (e1.trans e2) r2
  | false =>
    show Q (.bl false) H1
    exact q _ H1 e1 (.inl (.bl _))⟩
theorem ev_or (h1 : EvR K ta Γ (.bool b)) (h2 : b = false → EvR K tb Γ (.bool c)) : EvR K (tOrV ta tb) Γ (.bool (b || c)) := fun σ H E Q q => h1 σ H E _ fun v H1 e1 r1 => ⟨b, r1.bool, by
  cases b with
  | true =>
    show Q (.bl true) H1
    exact q _ H1 e1 (.inl (.bl _))
  | false =>
    show tb σ H1 Q
    exact h2 rfl σ H1 (E.mono e1) Q fun v H2 e2 r2 => q v H2 (e1.trans e2) r2⟩
theorem ev_not (h1 : EvR K ta Γ (.bool b)) : EvR K (tNotV ta) Γ (.bool (!b)) := fun σ H E Q q => h1 σ H E _ fun v H1 e1 r1 => ⟨b, r1.bool, q _ H1 e1 (.inl (.bl _))⟩
theorem ev_if (h : EvB K t Γ b) (h1 : b = true → EvR K ta Γ d) (h2 : b = false → EvR K tb Γ d) : EvR K (tIf t ta tb) Γ d := fun σ H E Q q => h σ H E _ fun H1 e1 => by
  cases b with
  | true =>
    show ta σ H1 Q
    exact h1 rfl σ H1 (E.mono e1) Q fun v H2 e2 r2 => q v H2 (e1.trans e2) r2
  | false =>
    show tb σ H1 Q
    exact h2 rfl σ H1 (E.mono e1) Q fun v H2 e2 r2 => q v H2 (e1.trans e2) r2
theorem ev_ite (h : EvB K t Γ b) (h1 : b = true → EvR K ta Γ d) (h2 : b = false → EvR K tb Γ e) : EvR K (tIf t ta tb) Γ (if b then d else e) :=
  ev_if h (fun z => by rw [if_pos z]; exact h1 z) (fun z => by rw [if_neg (by rw [z]; decide)]; exact h2 z)
theorem ef_ite {ds es : List D} (h : EvB K t Γ b) (h1 : b = true → EvF K ta Γ ds) (h2 : b = false → EvF K tb Γ es) : EvF K (tIf t ta tb) Γ (if b then ds else es) := fun σ H E Q q => h σ H E _ fun H1 e1 => by
  cases b with
  | true =>
    show ta σ H1 Q
    exact h1 rfl σ H1 (E.mono e1) Q fun p vs H2 n e2 h2 r2 => q p vs H2 (fresh_back e1 n) (e1.trans e2) h2 r2
  | false =>
    show tb σ H1 Q
    exact h2 rfl σ H1 (E.mono e1) Q fun p vs H2 n e2 h2 r2 => q p vs H2 (fresh_back e1 n) (e1.trans e2) h2 r2
/-! arguments, displays, calls -/
theorem eas_nil : EvAs K tNil Γ [] := fun σ H E Q q => q [] H (Ex.refl H) .nil
theorem eas_cons {tr : TA} {ds : List D} (h : EvR K ta Γ d) (hr : EvAs K tr Γ ds) : EvAs K (tCons ta tr) Γ (d :: ds) := fun σ H E Q q =>
  h σ H E _ fun v H1 e1 r1 => hr σ H1 (E.mono e1) _ fun vs H2 e2 r2 => q _ H2 (e1.trans e2) (.cons (r1.mono e2) r2)
theorem ev_tup {ta : TA} {ds : List D} (h : EvAs K ta Γ ds) (n : noDs ds = true) (hl : ds.length ≤ 100000) : EvR K (tTup ta) Γ (.tuple ds) := fun σ H E Q q =>
  h σ H E _ fun vs H1 e1 r1 => ⟨sz_of (by rw [Paired.length r1]; exact hl), fun p hp => q _ _ (e1.trans (Ex.new hp)) (.inl (.tup (st_of upd_same) (DpAll.mono (Ex.new hp) (RpAll.dp n r1))))⟩
theorem ef_lst {ta : TA} {ds : List D} (h : EvAs K ta Γ ds) (n : noDs ds = true) (hl : ds.length ≤ 100000) : EvF K (tLst ta) Γ ds := fun σ H E Q q =>
  h σ H E _ fun vs H1 e1 r1 => ⟨sz_of (by rw [Paired.length r1]; exact hl), fun p hp => q p vs _ (fresh_back e1 hp) (e1.trans (Ex.new hp)) upd_same (DpAll.mono (Ex.new hp) (RpAll.dp n r1))⟩
/-- a built-in's call, by values -/
theorem ev_cb {r : List V → Hp → VK → Prop} {ta : TA} {ds : List D} (h : EvAs K ta Γ ds) (hr : ∀ vs H, RpAll K H vs ds → ∀ Q : VK, (∀ v H', Ex H H' → Rp K H' v d → Q v H') → r vs H Q) : EvR K (tCB r ta) Γ d := fun σ H E Q q =>
  h σ H E _ fun vs H1 e1 r1 => hr vs H1 r1 Q fun v H' e2 r2 => q v H' (e1.trans e2) r2
theorem ef_cb {r : List V → Hp → VK → Prop} {ta : TA} {ds es : List D} (h : EvAs K ta Γ ds) (hr : ∀ vs H, RpAll K H vs ds → ∀ Q : VK, (∀ p vs H', H p = none → Ex H H' → H' p = some (.lst vs) → DpAll K H' vs es → Q (.ref p) H') → r vs H Q) : EvF K (tCB r ta) Γ es := fun σ H E Q q =>
  h σ H E _ fun vs H1 e1 r1 => hr vs H1 r1 Q fun p vs H' n e2 h2 r2 => q p vs H' (fresh_back e1 n) (e1.trans e2) h2 r2
theorem rp1 {H : Hp} {vs : List V} (h : RpAll K H vs [d]) : ∃ v, vs = [v] ∧ Rp K H v d := by
  cases h with
  | cons a b => cases b; exact ⟨_, rfl, a⟩
theorem rp2 {H : Hp} {vs : List V} (h : RpAll K H vs [d, e]) : ∃ v w, vs = [v, w] ∧ Rp K H v d ∧ Rp K H w e := by
  cases h with
  | cons a b => cases b with
    | cons a' b' => cases b'; exact ⟨_, _, rfl, a, a'⟩
theorem rp3 {H : Hp} {vs : List V} (h : RpAll K H vs [d, e, f]) : ∃ v w x, vs = [v, w, x] ∧ Rp K H v d ∧ Rp K H w e ∧ Rp K H x f := by
  cases h with
  | cons a b => cases b with
    | cons a' b' => cases b' with
      | cons a'' b'' => cases b''; exact ⟨_, _, _, rfl, a, a', a''⟩
abbrev rAbs : List V → Hp → VK → Prop := fun xs H Q => ∃ i, xs = [.int i] ∧ Q (.int (if i < 0 then -i else i)) H
theorem ev_abs (h : EvR K ta Γ (.int i)) : EvR K (tCB rAbs (tCons ta tNil)) Γ (.int (if i < 0 then -i else i)) :=
  ev_cb (eas_cons h eas_nil) fun vs H r Q q => by
    obtain ⟨v, rfl, r1⟩ := rp1 r
    exact ⟨i, by rw [r1.int], q _ H (Ex.refl H) (.inl (.int _))⟩
abbrev rMax2' : List V → Hp → VK → Prop := fun xs H Q => ∃ i j, xs = [.int i, .int j] ∧ Q (.int (if j > i then j else i)) H
theorem ev_max2 (h : EvR K ta Γ (.int i)) (h2 : EvR K tb Γ (.int j)) : EvR K (tCB rMax2' (tCons ta (tCons tb tNil))) Γ (.int (if j > i then j else i)) :=
  ev_cb (eas_cons h (eas_cons h2 eas_nil)) fun vs H r Q q => by
    obtain ⟨v, w, rfl, r1, r2⟩ := rp2 r
    exact ⟨i, j, by rw [r1.int, r2.int], q _ H (Ex.refl H) (.inl (.int _))⟩
abbrev rMin2' : List V → Hp → VK → Prop := fun xs H Q => ∃ i j, xs = [.int i, .int j] ∧ Q (.int (if j < i then j else i)) H
theorem ev_min2 (h : EvR K ta Γ (.int i)) (h2 : EvR K tb Γ (.int j)) : EvR K (tCB rMin2' (tCons ta (tCons tb tNil))) Γ (.int (if j < i then j else i)) :=
  ev_cb (eas_cons h (eas_cons h2 eas_nil)) fun vs H r Q q => by
    obtain ⟨v, w, rfl, r1, r2⟩ := rp2 r
    exact ⟨i, j, by rw [r1.int, r2.int], q _ H (Ex.refl H) (.inl (.int _))⟩
abbrev rInt1 : List V → Hp → VK → Prop := fun xs H Q => (∃ i, xs = [.int i] ∧ Q (.int i) H) ∨ ∃ k, xs = [.bl k] ∧ Q (.int (if k then 1 else 0)) H
theorem ev_intI (h : EvR K ta Γ (.int i)) : EvR K (tCB rInt1 (tCons ta tNil)) Γ (.int i) :=
  ev_cb (eas_cons h eas_nil) fun vs H r Q q => by
    obtain ⟨v, rfl, r1⟩ := rp1 r
    exact .inl ⟨i, by rw [r1.int], q _ H (Ex.refl H) (.inl (.int _))⟩
theorem ev_intB (h : EvR K ta Γ (.bool b)) : EvR K (tCB rInt1 (tCons ta tNil)) Γ (.int (if b then 1 else 0)) :=
  ev_cb (eas_cons h eas_nil) fun vs H r Q q => by
    obtain ⟨v, rfl, r1⟩ := rp1 r
    exact .inr ⟨b, by rw [r1.bool], q _ H (Ex.refl H) (.inl (.int _))⟩
abbrev rLenS' (K : PySem.W.Frag) : List V → Hp → VK → Prop := fun xs H Q => ∃ p ys, xs = [.ref p] ∧ (SqL K H p ys ∨ SqT K H p ys) ∧ Q (.int ys.length) H
theorem ev_lenT {ds : List D} (h : EvR K ta Γ (.tuple ds)) : EvR K (tCB (rLenS' K) (tCons ta tNil)) Γ (.int (ds.length : Int)) :=
  ev_cb (eas_cons h eas_nil) fun vs H r Q q => by
    obtain ⟨v, rfl, r1⟩ := rp1 r
    obtain ⟨a, ws, rfl, hs, hd⟩ := r1.tup
    refine ⟨a, ws, rfl, .inr hs, q _ H (Ex.refl H) (.inl ?_)⟩
    rw [DpAll.length hd]
    exact .int _
theorem ev_lenL {ds : List D} (h : EvR K ta Γ (.list ds)) : EvR K (tCB (rLenS' K) (tCons ta tNil)) Γ (.int (ds.length : Int)) :=
  ev_cb (eas_cons h eas_nil) fun vs H r Q q => by
    obtain ⟨v, rfl, r1⟩ := rp1 r
    obtain ⟨a, ws, rfl, hs, hd⟩ := r1.lst
    refine ⟨a, ws, rfl, .inl hs, q _ H (Ex.refl H) (.inl ?_)⟩
    rw [DpAll.length hd]
    exact .int _
abbrev rListOf (K : PySem.W.Frag) : List V → Hp → VK → Prop := fun xs H Q => ∃ p ys, xs = [.ref p] ∧ (SqL K H p ys ∨ SqT K H p ys) ∧ ∀ l, H l = none → Q (.ref l) (upd H l (.lst ys))
theorem ef_listT {ds : List D} (h : EvR K ta Γ (.tuple ds)) : EvF K (tCB (rListOf K) (tCons ta tNil)) Γ ds :=
  ef_cb (eas_cons h eas_nil) fun vs H r Q q => by
    obtain ⟨v, rfl, r1⟩ := rp1 r
    obtain ⟨a, ws, rfl, hs, hd⟩ := r1.tup
    exact ⟨a, ws, rfl, .inr hs, fun l hl => q l ws _ hl (Ex.new hl) upd_same (DpAll.mono (Ex.new hl) hd)⟩
theorem ef_listL {ds : List D} (h : EvR K ta Γ (.list ds)) : EvF K (tCB (rListOf K) (tCons ta tNil)) Γ ds :=
  ef_cb (eas_cons h eas_nil) fun vs H r Q q => by
    obtain ⟨v, rfl, r1⟩ := rp1 r
    obtain ⟨a, ws, rfl, hs, hd⟩ := r1.lst
    exact ⟨a, ws, rfl, .inl hs, fun l hl => q l ws _ hl (Ex.new hl) upd_same (DpAll.mono (Ex.new hl) hd)⟩
abbrev rTupOf (K : PySem.W.Frag) : List V → Hp → VK → Prop := fun xs H Q => ∃ p ys, xs = [.ref p] ∧ ((SqL K H p ys ∧ ∀ l, H l = none → Q (.ref l) (upd H l (.tup ys))) ∨ (SqT K H p ys ∧ Q (.ref p) H))
theorem ev_tupL {ds : List D} (h : EvR K ta Γ (.list ds)) : EvR K (tCB (rTupOf K) (tCons ta tNil)) Γ (.tuple ds) :=
  ev_cb (eas_cons h eas_nil) fun vs H r Q q => by
    obtain ⟨v, rfl, r1⟩ := rp1 r
    obtain ⟨a, ws, rfl, hs, hd⟩ := r1.lst
    exact ⟨a, ws, rfl, .inl ⟨hs, fun l hl => q _ _ (Ex.new hl) (.inl (.tup (st_of upd_same) (DpAll.mono (Ex.new hl) hd)))⟩⟩
theorem ev_tupT {ds : List D} (h : EvR K ta Γ (.tuple ds)) : EvR K (tCB (rTupOf K) (tCons ta tNil)) Γ (.tuple ds) :=
  ev_cb (eas_cons h eas_nil) fun vs H r Q q => by
    obtain ⟨v, rfl, r1⟩ := rp1 r
    obtain ⟨a, ws, rfl, hs, hd⟩ := r1.tup
    exact ⟨a, ws, rfl, .inr ⟨hs, q _ H (Ex.refl H) (.inl (.tup hs hd))⟩⟩
theorem ev_sum {ns : List Int} (h : EvR K ta Γ (lI ns)) : EvR K (tCB (rSum K) (tCons ta tNil)) Γ (.int ns.sum) :=
  ev_cb (eas_cons h eas_nil) fun vs H r Q q => by
    obtain ⟨v, rfl, r1⟩ := rp1 r
    obtain ⟨a, ws, rfl, hs, hd⟩ := r1.lst
    rw [DpAll.ints hd] at hs
    exact ⟨a, ns, rfl, hs, q _ H (Ex.refl H) (.inl (.int _))⟩
theorem ev_all {bs : List Bool} (h : EvR K ta Γ (.list (bs.map .bool))) : EvR K (tCB (rAll K) (tCons ta tNil)) Γ (.bool (bs.all id)) :=
  ev_cb (eas_cons h eas_nil) fun vs H r Q q => by
    obtain ⟨v, rfl, r1⟩ := rp1 r
    obtain ⟨a, ws, rfl, hs, hd⟩ := r1.lst
    rw [DpAll.bls hd] at hs
    exact ⟨a, bs, rfl, hs, q _ H (Ex.refl H) (.inl (.bl _))⟩
/-- t + u of tuples -/
theorem ev_catT {ds es : List D} (ha : EvR K ta Γ (.tuple ds)) (hb : EvR K tb Γ (.tuple es)) (hl : ds.length + es.length ≤ 100000) : EvR K (tOp (rCatA K) ta tb) Γ (.tuple (ds ++ es)) :=
  ev_op ha hb fun x y H r1 r2 Q q => by
    obtain ⟨a, vs, rfl, hs, hd⟩ := r1.tup
    obtain ⟨b, ws, rfl, ht, he⟩ := r2.tup
    have l1 := DpAll.length hd
    have l2 := DpAll.length he
    refine ⟨a, b, vs, ws, rfl, rfl, hs, ht, sz_of (by omega), fun z => ?_, fun _ z => ?_, fun _ _ p hp => ?_⟩
    · have z' : ds = [] := List.length_eq_zero_iff.mp (by rw [← l1, z]; rfl)
      rw [z'] at q
      exact q _ H (Ex.refl H) (.inl (.tup ht he))
    · have z' : es = [] := List.length_eq_zero_iff.mp (by rw [← l2, z]; rfl)
      rw [z', List.append_nil] at q
      exact q _ H (Ex.refl H) (.inl (.tup hs hd))
    · exact q _ _ (Ex.new hp) (.inl (.tup (st_of upd_same) (DpAll.mono (Ex.new hp) (DpAll.append hd he))))
/-! slices -/
theorem ep_none : EvP K tNoPart Γ none := fun σ H E Q q => q H (Ex.refl H)
theorem ep_some (h : EvR K te Γ (.int i)) : EvP K (tPart te) Γ (some i) := fun σ H E Q q => h σ H E _ fun v H1 e1 r1 => ⟨i, r1.int, q H1 e1⟩
def cutD (xs : List D) (lo hi : Option Int) : List D := (xs.drop (HT.sIx xs.length 0 lo)).take (HT.sIx xs.length xs.length hi - HT.sIx xs.length 0 lo)
theorem DpAll.cut {H : Hp} {vs : List V} {ds : List D} (lo hi : Option Int) (h : DpAll K H vs ds) : DpAll K H (cutV vs lo hi) (cutD ds lo hi) := by
  unfold cutV cutD
  rw [DpAll.length h]
  exact DpAll.take _ (DpAll.drop _ h)
theorem ev_slT {ds : List D} {tl th : TO} {lo hi : Option Int} (ha : EvR K te Γ (.tuple ds)) (hl : EvP K tl Γ lo) (hh : EvP K th Γ hi) : EvR K (tSl (rSlA K) te tl th) Γ (.tuple (cutD ds lo hi)) := fun σ H E Q q =>
  ha σ H E _ fun v H1 e1 r1 => hl σ H1 (E.mono e1) _ fun H2 e2 => hh σ H2 (E.mono (e1.trans e2)) _ fun H3 e3 => by
    obtain ⟨a, vs, rfl, hs, hd⟩ := (r1.mono (e2.trans e3)).tup
    have e := (e1.trans e2).trans e3
    refine ⟨a, vs, rfl, hs, fun z => ?_, fun _ p hp => ?_⟩
    · have l1 := DpAll.length hd
      have : cutD ds lo hi = ds := by
        unfold cutD
        rw [← l1, z.1, z.2, List.drop_zero, Nat.sub_zero, l1]
        exact List.take_length
      rw [this] at q
      exact q _ H3 e (.inl (.tup hs hd))
    · exact q _ _ (e.trans (Ex.new hp)) (.inl (.tup (st_of upd_same) (DpAll.mono (Ex.new hp) (DpAll.cut lo hi hd))))
theorem ef_slL {ds : List D} {tl th : TO} {lo hi : Option Int} (ha : EvR K te Γ (.list ds)) (hl : EvP K tl Γ lo) (hh : EvP K th Γ hi) : EvF K (tSl (rSlL K) te tl th) Γ (cutD ds lo hi) := fun σ H E Q q =>
  ha σ H E _ fun v H1 e1 r1 => hl σ H1 (E.mono e1) _ fun H2 e2 => hh σ H2 (E.mono (e1.trans e2)) _ fun H3 e3 => by
    obtain ⟨a, vs, rfl, hs, hd⟩ := (r1.mono (e2.trans e3)).lst
    have e := (e1.trans e2).trans e3
    exact ⟨a, vs, rfl, hs, fun p hp => q p _ _ (fresh_back e hp) (e.trans (Ex.new hp)) upd_same (DpAll.mono (Ex.new hp) (DpAll.cut lo hi hd))⟩
theorem ef_revL {ds : List D} (ha : EvR K te Γ (.list ds)) : EvF K (tRevL K te) Γ ds.reverse := fun σ H E Q q =>
  ha σ H E _ fun v H1 e1 r1 => by
    obtain ⟨a, vs, rfl, hs, hd⟩ := r1.lst
    exact ⟨a, vs, rfl, hs, fun p hp => q p _ _ (fresh_back e1 hp) (e1.trans (Ex.new hp)) upd_same (DpAll.mono (Ex.new hp) (DpAll.reverse hd))⟩
theorem cutD_from (ds : List D) (k : Nat) : cutD ds (some (k : Int)) none = ds.drop k := by
  unfold cutD
  rw [HT.sIx_nat, HT.sIx_none]
  by_cases h : k ≤ ds.length
  · rw [Nat.min_eq_left h]
    exact List.take_of_length_le (by simp)
  · rw [Nat.min_eq_right (by omega), List.drop_length, List.drop_of_length_le (by omega)]
    simp
end
end KW

set_option Elab.async false
set_option linter.all false
set_option maxRecDepth 100000
set_option maxHeartbeats 4000000
/-! comprehensions, calls -/
namespace KW
open PySem PySem.Spec PyProof.Rows L2 Evl

/-! ### a heap without one object -/
noncomputable def del (H : Hp) (D : Addr) : Hp := fun a => if a = D then none else H a
theorem del_same {H : Hp} {D : Addr} : del H D D = none := by unfold del; rw [if_pos rfl]
theorem del_ne {H : Hp} {D a : Addr} (h : a ≠ D) : del H D a = H a := by unfold del; rw [if_neg h]
theorem del_ex {H : Hp} {D : Addr} : Ex (del H D) H := fun a o h => by
  by_cases e : a = D
  · subst e; rw [del_same] at h; cases h
  · rw [del_ne e] at h; exact h
theorem del_mono {H H' : Hp} {D : Addr} (x : Ex H H') : Ex (del H D) (del H' D) := fun a o h => by
  by_cases e : a = D
  · subst e; rw [del_same] at h; cases h
  · rw [del_ne e] at h ⊢; exact x a o h
theorem del_upd {H H' : Hp} {D : Addr} {o : HO} (x : Ex H H') : Ex (del H D) (del (upd H' D o) D) := fun a u h => by
  by_cases e : a = D
  · subst e; rw [del_same] at h; cases h
  · rw [del_ne e] at h ⊢; rw [upd_ne e]; exact x a u h
theorem del_of {H H' : Hp} {D : Addr} (n : H D = none) (x : Ex H H') : Ex H (del H' D) := fun a o h => by
  have e : a ≠ D := fun e => by subst e; rw [n] at h; cases h
  rw [del_ne e]; exact x a o h
theorem del_sqT {K : PySem.W.Frag} {H : Hp} {D : Addr} {xs : List V} (h : H D = some (.lst xs)) : ∀ a ys, SqT K H a ys → SqT K (del H D) a ys := fun a ys q => by
  rcases q with (q | ⟨o, q⟩) | q
  · have e : a ≠ D := fun e => by subst e; rw [h] at q; cases q
    exact .inl (.inl (by rw [del_ne e]; exact q))
  · have e : a ≠ D := fun e => by subst e; rw [h] at q; cases q
    exact .inl (.inr ⟨o, by rw [del_ne e]; exact q⟩)
  · exact .inr q

/-! ### targets by data -/
def setW (σ : L2.St) (ws : List (Nat × V)) : L2.St := ws.foldl (fun σ p => σ.set p.1 (some p.2)) σ
def setJ (Γ : G) (js : List (Nat × D)) : G := js.foldl (fun Γ p => Γ.set p.1 (some p.2)) Γ
abbrev JW (K : PySem.W.Frag) (H : Hp) : List (Nat × V) → List (Nat × D) → Prop := Paired fun w j => w.1 = j.1 ∧ Rp K H w.2 j.2
theorem JW.env {K : PySem.W.Frag} {H : Hp} : ∀ {ws : List (Nat × V)} {js : List (Nat × D)} {σ : L2.St} {Γ : G}, JW K H ws js → EnvOk K H σ Γ → EnvOk K H (setW σ ws) (setJ Γ js)
  | _, _, _, _, .nil, E => E
  | _, _, σ, Γ, .cons (a := w) (b := j) h t, E => by
    obtain ⟨h1, h2⟩ := h
    have := E.set (j := j.1) h2
    rw [← h1] at this
    show EnvOk K H (setW (σ.set w.1 (some w.2)) _) (setJ (Γ.set j.1 (some j.2)) _)
    rw [← h1]
    exact JW.env t this
theorem setW_length : ∀ (ws : List (Nat × V)) (σ : L2.St), (setW σ ws).length = σ.length
  | [], _ => rfl
  | w :: ws, σ => by
    show (setW (σ.set w.1 (some w.2)) ws).length = _
    rw [setW_length, List.length_set]
theorem setW_out {i : Nat} : ∀ (ws : List (Nat × V)) (σ : L2.St), (∀ p ∈ ws, p.1 ≠ i) → (setW σ ws)[i]? = σ[i]?
  | [], _, _ => rfl
  | w :: ws, σ, h => by
    show (setW (σ.set w.1 (some w.2)) ws)[i]? = _
    rw [setW_out ws _ fun p hp => h p (List.mem_cons_of_mem _ hp), List.getElem?_set_ne (h w List.mem_cons_self)]
theorem JW.keys {K : PySem.W.Frag} {H : Hp} {vs : List Nat} : ∀ {ws : List (Nat × V)} {js : List (Nat × D)}, JW K H ws js → (∀ p ∈ js, p.1 ∈ vs) → ∀ p ∈ ws, p.1 ∈ vs
  | _, _, .nil, _, p, hp => by cases hp
  | _, _, .cons (b := j) h t, k, p, hp => by
    rcases List.mem_cons.mp hp with rfl | hp
    · rw [h.1]; exact k j List.mem_cons_self
    · exact JW.keys t (fun q hq => k q (List.mem_cons_of_mem _ hq)) p hp
theorem JW.mono {K : PySem.W.Frag} {H H' : Hp} (e : Ex H H') : ∀ {ws : List (Nat × V)} {js : List (Nat × D)}, JW K H ws js → JW K H' ws js
  | _, _, .nil => .nil
  | _, _, .cons h t => .cons ⟨h.1, h.2.mono e⟩ (JW.mono e t)
theorem JW.append {K : PySem.W.Frag} {H : Hp} : ∀ {ws ws' : List (Nat × V)} {js js' : List (Nat × D)}, JW K H ws js → JW K H ws' js' → JW K H (ws ++ ws') (js ++ js')
  | _, _, _, _, .nil, h => h
  | _, _, _, _, .cons h t, q => .cons h (JW.append t q)
theorem setW_append (σ : L2.St) (a b : List (Nat × V)) : setW σ (a ++ b) = setW (setW σ a) b := List.foldl_append
def Tg (K : PySem.W.Frag) (g : TG) (d : D) (js : List (Nat × D)) : Prop :=
  ∀ v B, Rp K B v d → ∃ ws, JW K B ws js ∧ ∀ H, Ex B H → ∀ σ (Q : L2.St → Hp → Prop), Q (setW σ ws) H → g v σ H Q
def TgL (K : PySem.W.Frag) (g : TGs) (ds : List D) (js : List (Nat × D)) : Prop :=
  ∀ vs B, DpAll K B vs ds → ∃ ws, JW K B ws js ∧ ∀ H, Ex B H → ∀ σ (Q : L2.St → Hp → Prop), Q (setW σ ws) H → g vs σ H Q
section
variable {K : PySem.W.Frag} {d : D} {ds : List D} {js js' : List (Nat × D)} {g : TG} {gs : TGs} {j n : Nat}
theorem tg_name : Tg K (gName j) d [(j, d)] := fun v H r => ⟨[(j, v)], .cons ⟨rfl, r⟩ .nil, fun _ _ _ _ q => q⟩
theorem tgl_nil : TgL K gNil [] [] := fun vs H h => by
  cases h
  exact ⟨[], .nil, fun _ _ _ _ q => ⟨rfl, q⟩⟩
theorem tgl_cons (h : Tg K g d js) (t : TgL K gs ds js') : TgL K (gCons g gs) (d :: ds) (js ++ js') := fun vs H q => by
  cases q with
  | cons a b =>
    obtain ⟨w1, p1, q1⟩ := h _ H (.inl a)
    obtain ⟨w2, p2, q2⟩ := t _ H b
    refine ⟨w1 ++ w2, JW.append p1 p2, fun H' e σ Q z => ⟨_, _, rfl, q1 H' e σ _ (q2 H' e _ _ ?_)⟩⟩
    rw [setW_append] at z
    exact z
theorem tg_tup (h : TgL K gs ds js) (hn : ds.length = n) : Tg K (gTup K n gs) (.tuple ds) js := fun v H r => by
  obtain ⟨a, vs, rfl, hs, hd⟩ := r.tup
  obtain ⟨ws, p, q⟩ := h _ H hd
  exact ⟨ws, p, fun H' e σ Q z => ⟨a, vs, rfl, ex_t e hs, by rw [DpAll.length hd]; exact hn, q H' e σ Q z⟩⟩
end

/-! ### what is walked -/
def WalksD (K : PySem.W.Frag) (J : It) (B : Hp) (ds : List D) : Prop :=
  ∀ H', Ex B H' → (∀ (i : Nat) d, ds[i]? = some d → J.go i H' ∧ ∀ x H'', J.yld i H' x H'' → Ex H' H'' ∧ Rp K B x d) ∧ J.stop ds.length H'
def EvIt (K : PySem.W.Frag) (wi : TI) (Γ : G) (ds : List D) : Prop := ∀ σ H, EnvOk K H σ Γ → ∀ R : It → Hp → Prop, (∀ J H', Ex H H' → WalksD K J H' ds → R J H') → wi σ H R
/-- .. by what does not change with a list -/
def EvItM (K : PySem.W.Frag) (wi : TI) (Γ : G) (ds : List D) : Prop := ∀ σ H, EnvOk K H σ Γ → ∀ R : It → Hp → Prop, (∀ J H', Ex H H' → (∀ D xs, H D = some (.lst xs) → WalksD K J (del H' D) ds) → R J H') → wi σ H R
def rgI (lo : Int) (n : Nat) : List Int := (List.range n).map fun (i : Nat) => lo + (i : Int)
theorem rgI_length (lo : Int) (n : Nat) : (rgI lo n).length = n := by simp [rgI]
theorem rgI_get {lo : Int} {n i : Nat} (h : i < n) : (rgI lo n)[i]? = some (lo + (i : Int)) := by simp [rgI, h]
theorem mem_rgI {lo x : Int} {n : Nat} : x ∈ rgI lo n ↔ lo ≤ x ∧ x < lo + n := by
  simp only [rgI, List.mem_map, List.mem_range]
  constructor
  · rintro ⟨i, h, rfl⟩; omega
  · rintro ⟨h1, h2⟩
    exact ⟨(x - lo).toNat, by omega, by omega⟩
section
variable {K : PySem.W.Frag} {Γ : G} {ta : TA} {tl : TE}
theorem walks_rng (B : Hp) (lo : Int) (n : Nat) : WalksD K (Itr lo n) B ((rgI lo n).map .int) := fun H' _ => by
  refine ⟨fun i d h => ?_, ?_⟩
  · have hi : i < n := by
      obtain ⟨q, _⟩ := List.getElem?_eq_some_iff.mp h
      simpa [rgI_length] using q
    rw [List.getElem?_map, rgI_get hi] at h
    cases h
    exact ⟨hi, fun x H'' y => by
      obtain ⟨e1, e2⟩ := y
      subst e1 e2
      exact ⟨Ex.refl _, .inl (.int _)⟩⟩
  · show n ≤ _
    simp [rgI_length]
theorem it_rng1 {n : Int} (h : EvAs K ta Γ [.int n]) (hn : -(2 ^ 62) ≤ n ∧ n < 2 ^ 62) : EvIt K (iRng1 ta) Γ ((rgI 0 n.toNat).map .int) := fun σ H E R q =>
  h σ H E _ fun vs H1 e1 r => by
    obtain ⟨v, rfl, r1⟩ := rp1 r
    exact ⟨n, by rw [r1.int], hn.1, hn.2, q _ H1 e1 (walks_rng H1 0 n.toNat)⟩
theorem it_rng2 {lo n : Int} (h : EvAs K ta Γ [.int lo, .int n]) (hn : -(2 ^ 62) ≤ lo ∧ lo < 2 ^ 62 ∧ -(2 ^ 62) ≤ n ∧ n < 2 ^ 62) : EvIt K (iRng2 ta) Γ ((rgI lo (n - lo).toNat).map .int) := fun σ H E R q =>
  h σ H E _ fun vs H1 e1 r => by
    obtain ⟨v, w, rfl, r1, r2⟩ := rp2 r
    exact ⟨lo, n, by rw [r1.int, r2.int], hn, q _ H1 e1 (walks_rng H1 lo _)⟩
theorem itm_rng1 {n : Int} (h : EvAs K ta Γ [.int n]) (hn : -(2 ^ 62) ≤ n ∧ n < 2 ^ 62) : EvItM K (iRng1 ta) Γ ((rgI 0 n.toNat).map .int) := fun σ H E R q =>
  h σ H E _ fun vs H1 e1 r => by
    obtain ⟨v, rfl, r1⟩ := rp1 r
    exact ⟨n, by rw [r1.int], hn.1, hn.2, q _ H1 e1 fun D _ _ => walks_rng _ 0 n.toNat⟩
theorem itm_rng2 {lo n : Int} (h : EvAs K ta Γ [.int lo, .int n]) (hn : -(2 ^ 62) ≤ lo ∧ lo < 2 ^ 62 ∧ -(2 ^ 62) ≤ n ∧ n < 2 ^ 62) : EvItM K (iRng2 ta) Γ ((rgI lo (n - lo).toNat).map .int) := fun σ H E R q =>
  h σ H E _ fun vs H1 e1 r => by
    obtain ⟨v, w, rfl, r1, r2⟩ := rp2 r
    exact ⟨lo, n, by rw [r1.int, r2.int], hn, q _ H1 e1 fun D _ _ => walks_rng _ lo _⟩
theorem walks_tup {B : Hp} {a : Addr} {vs : List V} {ds : List D} (hs : SqT K B a vs) (hd : DpAll K B vs ds) : WalksD K (Itt K a) B ds := fun H' e => by
  have hs' := ex_t e hs
  have hl := DpAll.length hd
  refine ⟨fun i d h => ?_, ⟨vs, hs', by omega⟩⟩
  obtain ⟨v, h1, h2⟩ := DpAll.get hd h
  refine ⟨⟨vs, v, hs', h1⟩, fun x H'' y => ?_⟩
  obtain ⟨e1, e2⟩ := y
  subst e1
  have := e2 vs hs'
  rw [h1] at this
  cases this
  exact ⟨Ex.refl _, .inl h2⟩
theorem walks_lst {B : Hp} {a : Addr} {vs : List V} {ds : List D} (hs : SqL K B a vs) (hd : DpAll K B vs ds) : WalksD K (Itl K a) B ds := fun H' e => by
  have hs' := ex_l e hs
  have hl := DpAll.length hd
  refine ⟨fun i d h => ?_, ⟨vs, hs', by omega⟩⟩
  obtain ⟨v, h1, h2⟩ := DpAll.get hd h
  refine ⟨⟨vs, v, hs', h1⟩, fun x H'' y => ?_⟩
  obtain ⟨e1, e2⟩ := y
  subst e1
  have := e2 vs hs'
  rw [h1] at this
  cases this
  exact ⟨Ex.refl _, .inl h2⟩
theorem it_tup {ds : List D} (h : EvR K tl Γ (.tuple ds)) : EvIt K (iTup K tl) Γ ds := fun σ H E R q =>
  h σ H E _ fun v H1 e1 r => by
    obtain ⟨a, vs, rfl, hs, hd⟩ := r.tup
    exact ⟨a, rfl, ⟨vs, hs⟩, q _ H1 e1 (walks_tup hs hd)⟩
theorem it_lst {ds : List D} (h : EvR K tl Γ (.list ds)) : EvIt K (iList K tl) Γ ds := fun σ H E R q =>
  h σ H E _ fun v H1 e1 r => by
    obtain ⟨a, vs, rfl, hs, hd⟩ := r.lst
    exact ⟨a, rfl, ⟨vs, hs⟩, q _ H1 e1 (walks_lst hs hd)⟩
theorem itm_tup {ds : List D} (h : EvR K tl Γ (.tuple ds)) (n : noLs ds = true) : EvItM K (iTup K tl) Γ ds := fun σ H E R q =>
  h σ H E _ fun v H1 e1 r => by
    obtain ⟨a, vs, rfl, hs, hd⟩ := r.tup
    exact ⟨a, rfl, ⟨vs, hs⟩, q _ H1 e1 fun D xs hD => walks_tup (del_sqT (e1 _ _ hD) _ _ hs) (DpAll.mapT (del_sqT (e1 _ _ hD)) _ _ n hd)⟩
end

/-! ### a value that no elder list bears -/
def EvM (K : PySem.W.Frag) (te : TE) (Γ : G) (d : D) : Prop := ∀ σ H, EnvOk K H σ Γ → ∀ Q : VK, (∀ v H', Ex H H' → (∀ D xs, H D = some (.lst xs) → Dp K (del H' D) v d) → Q v H') → te σ H Q
section
variable {K : PySem.W.Frag} {Γ : G} {ta : TA} {te : TE} {d : D}
theorem noL_dict : ∀ {d : D}, noL d = true → isDict d = false
  | .none, _ => rfl
  | .bool _, _ => rfl
  | .int _, _ => rfl
  | .str _, _ => rfl
  | .tuple _, _ => rfl
  | .list _, n => by simp [noL] at n
  | .dict _, n => by simp [noL] at n
theorem em_R (n : noL d = true) (h : EvR K te Γ d) : EvM K te Γ d := fun σ H E Q q => h σ H E Q fun v H' e r => q v H' e fun D xs hD => Dp.mapT (del_sqT (e _ _ hD)) d v n (r.dp (noL_dict n))
theorem em_F {ds : List D} (n : noLs ds = true) (h : EvF K te Γ ds) : EvM K te Γ (.list ds) := fun σ H E Q q => h σ H E Q fun p vs H' np e hp hd => q _ H' e fun D xs hD => by
  have ne : p ≠ D := fun z => by subst z; rw [np] at hD; cases hD
  exact .lst (sq_of (by rw [del_ne ne]; exact hp)) (DpAll.mapT (del_sqT (e _ _ hD)) _ _ n hd)
end

/-! ### list comprehensions -/
theorem take_succ_fm {α β : Type} (f : α → Bool) (v : α → β) (l : List α) (i : Nat) (a : α) (h : l[i]? = some a) : ((l.take (i + 1)).filter f).map v = ((l.take i).filter f).map v ++ (if f a then [v a] else []) := by
  rw [List.take_add_one, h, List.filter_append, List.map_append]
  cases h : f a <;> simp [h]
theorem filter_len_le {α : Type} (f : α → Bool) (l : List α) : (l.filter f).length ≤ l.length := List.length_filter_le f l
/-- the comprehension's list D: what it holds -/
def Cw (K : PySem.W.Frag) (H0 : Hp) (D : Addr) (ds : List PyData) (H : Hp) : Prop := Ex H0 (del H D) ∧ ∃ vs, H D = some (.lst vs) ∧ DpAll K (del H D) vs ds
section
variable {K : PySem.W.Frag} {H0 H : Hp} {D : Addr} {ds : List PyData}
theorem Cw.ex (n : H0 D = none) (h : Cw K H0 D ds H) : Ex H0 H := fun a o q => by
  have := h.1 a o q
  exact del_ex a o this
theorem Cw.new (n : H0 D = none) : Cw K H0 D [] (upd H0 D (.lst [])) := ⟨del_of n (Ex.new n), [], upd_same, .nil⟩
theorem Cw.mono {H' : Hp} (e : Ex H H') (h : Cw K H0 D ds H) : Cw K H0 D ds H' := by
  obtain ⟨a, vs, b, c⟩ := h
  exact ⟨a.trans (del_mono e), vs, e _ _ b, DpAll.mono (del_mono e) c⟩
/-- one more item -/
theorem Cw.snoc {v : V} {d : PyData} (h : Cw K H0 D ds H) (r : Dp K (del H D) v d) (hz : ds.length < 100000) : ∃ acc, H D = some (.lst acc) ∧ acc.length < sizeLine ∧ Cw K H0 D (ds ++ [d]) (upd H D (.lst (acc ++ [v]))) := by
  obtain ⟨a, vs, b, c⟩ := h
  refine ⟨vs, b, sz_lt (by rw [DpAll.length c]; exact hz), ?_, vs ++ [v], upd_same, ?_⟩
  · exact a.trans (del_upd (Ex.refl H))
  · exact DpAll.append (DpAll.mono (del_upd (Ex.refl H)) c) (.cons (Dp.mono (del_upd (Ex.refl H)) r) .nil)
end
section
variable {K : PySem.W.Frag} {Γ : G} {wi wi1 : TI} {g g1 : TG} {tt tt1 : TT} {te : TE} {vs vs1 : List Nat} {α β : Type}
theorem ef_lc (src : List α) (emb : α → D) (jd : α → List (Nat × D)) (f : α → Bool) (v : α → D) (hi : EvIt K wi Γ (src.map emb)) (hg : ∀ a ∈ src, Tg K g (emb a) (jd a)) (hj : ∀ a ∈ src, ∀ p ∈ jd a, p.1 ∈ vs)
    (ht : ∀ a ∈ src, EvB K tt (setJ (wipeG Γ vs) (jd a)) (f a)) (he : ∀ a ∈ src, f a = true → EvM K te (setJ (wipeG Γ vs) (jd a)) (v a)) (hl : src.length ≤ 100000) : EvF K (tLc wi g tt te vs) Γ ((src.filter f).map v) := fun σ H E Q q =>
  hi σ H E _ fun J H1 e1 w => fun Dl hD => by
    refine ⟨fun i m H' => m = src.length - i ∧ i ≤ src.length ∧ Cw K H1 Dl (((src.take i).filter f).map v) H', ⟨src.length, by simp, Nat.zero_le _, by simpa using Cw.new hD⟩, ?_⟩
    rintro i m H' ⟨rfl, hi', cw⟩
    have ex := cw.ex hD
    obtain ⟨w1, w2⟩ := w H' ex
    by_cases hlt : i < src.length
    · have hsrc : src[i]? = some src[i] := List.getElem?_eq_getElem hlt
      have hmem : src[i] ∈ src := List.getElem_mem hlt
      obtain ⟨go, step⟩ := w1 i (emb src[i]) (by rw [List.getElem?_map, hsrc]; rfl)
      refine .inr ⟨go, fun H'' => Cw K H1 Dl (((src.take (i + 1)).filter f).map v) H'', fun H'' p => ⟨src.length - (i + 1), by omega, rfl, hlt, p⟩, fun x H2 y => ?_⟩
      obtain ⟨e2, rx⟩ := step x H2 y
      obtain ⟨ws, jw, gq⟩ := hg _ hmem x H1 rx
      refine gq H2 (ex.trans e2) _ _ ⟨wipe_eq (by rw [setW_length, wipe_length]) fun k hk => ?_, ?_⟩
      · rw [setW_out ws _ fun p hp (z : p.1 = k) => hk (by rw [← z]; exact jw.keys (hj _ hmem) p hp), wipe_get hk]
      · have E1 : EnvOk K H1 (setW (wipe σ vs) ws) (setJ (wipeG Γ vs) (jd src[i])) := jw.env ((E.mono e1).wipe vs)
        have E2 := E1.mono (ex.trans e2)
        refine ht _ hmem _ H2 E2 _ fun H3 e3 => ?_
        have cw3 : Cw K H1 Dl (((src.take i).filter f).map v) H3 := (cw.mono e2).mono e3
        have tk := take_succ_fm f v src i src[i] hsrc
        cases hf : f src[i] with
        | false =>
          show Cw K H1 Dl (((src.take (i + 1)).filter f).map v) H3
          rw [tk, hf]
          simpa using cw3
        | true =>
          show te (setW (wipe σ vs) ws) H3 fun y H4 => ∃ acc, H4 Dl = some (.lst acc) ∧ acc.length < sizeLine ∧ Cw K H1 Dl (((src.take (i + 1)).filter f).map v) (upd H4 Dl (.lst (acc ++ [y])))
          refine he _ hmem hf _ H3 (E2.mono e3) _ fun y H4 e4 ry => ?_
          obtain ⟨acc0, hacc, _⟩ := cw3.2
          rw [tk, hf]
          exact (cw3.mono e4).snoc (ry Dl _ hacc) (by
            rw [List.length_map]
            have := filter_len_le f (src.take i)
            rw [List.length_take] at this
            omega)
    · have hii : i = src.length := by omega
      subst hii
      rw [List.length_map] at w2
      rw [List.take_length] at cw
      obtain ⟨vs', hv1, hv2⟩ := cw.2
      exact .inl ⟨w2, q Dl vs' H' (fresh_back e1 hD) (e1.trans ex) hv1 (DpAll.mono del_ex hv2)⟩
/-- two clauses, the first one without a test -/
theorem ef_lc2 (src : List α) (emb : α → D) (jd : α → List (Nat × D)) (src1 : α → List β) (emb1 : α → β → D) (jd1 : α → β → List (Nat × D)) (f : α → β → Bool) (v : α → β → D)
    (hi : EvIt K wi Γ (src.map emb)) (hg : ∀ a ∈ src, Tg K g (emb a) (jd a)) (hj : ∀ a ∈ src, ∀ p ∈ jd a, p.1 ∈ vs)
    (hi1 : ∀ a ∈ src, EvItM K wi1 (setJ (wipeG Γ vs) (jd a)) ((src1 a).map (emb1 a)))
    (hg1 : ∀ a ∈ src, ∀ b ∈ src1 a, Tg K g1 (emb1 a b) (jd1 a b)) (hj1 : ∀ a ∈ src, ∀ b ∈ src1 a, ∀ p ∈ jd1 a b, p.1 ∈ vs1)
    (ht : ∀ a ∈ src, ∀ b ∈ src1 a, EvB K tt1 (setJ (wipeG (setJ (wipeG Γ vs) (jd a)) vs1) (jd1 a b)) (f a b)) (he : ∀ a ∈ src, ∀ b ∈ src1 a, f a b = true → EvM K te (setJ (wipeG (setJ (wipeG Γ vs) (jd a)) vs1) (jd1 a b)) (v a b))
    (hl : ∀ i, ((src.take i).flatMap fun a => ((src1 a).filter (f a)).map (v a)).length ≤ 50000) (hl1 : ∀ a ∈ src, (src1 a).length ≤ 40000) : EvF K (tLc2 wi g tYes wi1 g1 tt1 te vs vs1) Γ (src.flatMap fun a => ((src1 a).filter (f a)).map (v a)) := fun σ H E Q q =>
  hi σ H E _ fun J H1 e1 w => fun Dl hD => by
    refine ⟨fun i m H' => m = src.length - i ∧ i ≤ src.length ∧ Cw K H1 Dl ((src.take i).flatMap fun a => ((src1 a).filter (f a)).map (v a)) H', ⟨src.length, by simp, Nat.zero_le _, by simpa using Cw.new hD⟩, ?_⟩
    rintro i m H' ⟨rfl, hi', cw⟩
    have ex := cw.ex hD
    obtain ⟨w1, w2⟩ := w H' ex
    by_cases hlt : i < src.length
    · have hsrc : src[i]? = some src[i] := List.getElem?_eq_getElem hlt
      have hmem : src[i] ∈ src := List.getElem_mem hlt
      obtain ⟨go, step⟩ := w1 i (emb src[i]) (by rw [List.getElem?_map, hsrc]; rfl)
      refine .inr ⟨go, fun H'' => Cw K H1 Dl ((src.take (i + 1)).flatMap fun a => ((src1 a).filter (f a)).map (v a)) H'', fun H'' p => ⟨src.length - (i + 1), by omega, rfl, hlt, p⟩, fun x H2 y => ?_⟩
      obtain ⟨e2, rx⟩ := step x H2 y
      obtain ⟨ws, jw, gq⟩ := hg _ hmem x H1 rx
      refine gq H2 (ex.trans e2) _ _ ⟨wipe_eq (by rw [setW_length, wipe_length]) fun k hk => ?_, ?_⟩
      · rw [setW_out ws _ fun p hp (z : p.1 = k) => hk (by rw [← z]; exact jw.keys (hj _ hmem) p hp), wipe_get hk]
      · have E1 : EnvOk K H1 (setW (wipe σ vs) ws) (setJ (wipeG Γ vs) (jd src[i])) := jw.env ((E.mono e1).wipe vs)
        have E2 := E1.mono (ex.trans e2)
        show wi1 (setW (wipe σ vs) ws) H2 _
        refine hi1 _ hmem _ H2 E2 _ fun J1 H4 e4 w4 => ?_
        have cw4 : Cw K H1 Dl ((src.take i).flatMap fun a => ((src1 a).filter (f a)).map (v a)) H4 := (cw.mono e2).mono e4
        obtain ⟨acc0, hacc, _⟩ := (cw.mono e2).2
        have w5 := w4 Dl _ hacc
        have tk : (src.take (i + 1)).flatMap (fun a => ((src1 a).filter (f a)).map (v a)) = (src.take i).flatMap (fun a => ((src1 a).filter (f a)).map (v a)) ++ ((src1 src[i]).filter (f src[i])).map (v src[i]) := by
          rw [List.take_add_one, hsrc, List.flatMap_append]
          simp
        -- the inner loop: all but Dl stays
        refine ⟨fun j k H' => k = (src1 src[i]).length - j ∧ j ≤ (src1 src[i]).length ∧ Ex (del H4 Dl) (del H' Dl) ∧ Cw K H1 Dl ((src.take i).flatMap (fun a => ((src1 a).filter (f a)).map (v a)) ++ (((src1 src[i]).take j).filter (f src[i])).map (v src[i])) H',
          ⟨_, rfl, Nat.zero_le _, Ex.refl _, by simpa using cw4⟩, ?_⟩
        rintro j k H5 ⟨rfl, hj', ex5, cw5⟩
        obtain ⟨x1, x2⟩ := w5 H5 (ex5.trans del_ex)
        by_cases hlt1 : j < (src1 src[i]).length
        · have hs1 : (src1 src[i])[j]? = some (src1 src[i])[j] := List.getElem?_eq_getElem hlt1
          have hm1 : (src1 src[i])[j] ∈ src1 src[i] := List.getElem_mem hlt1
          obtain ⟨go1, step1⟩ := x1 j (emb1 src[i] (src1 src[i])[j]) (by rw [List.getElem?_map, hs1]; rfl)
          refine .inr ⟨go1, fun H' => Ex (del H4 Dl) (del H' Dl) ∧ Cw K H1 Dl ((src.take i).flatMap (fun a => ((src1 a).filter (f a)).map (v a)) ++ (((src1 src[i]).take (j + 1)).filter (f src[i])).map (v src[i])) H',
            fun H' p => ⟨(src1 src[i]).length - (j + 1), by omega, rfl, hlt1, p⟩, fun x H6 y => ?_⟩
          obtain ⟨e6, rx1⟩ := step1 x H6 y
          have ex6 : Ex (del H4 Dl) H6 := (ex5.trans del_ex).trans e6
          obtain ⟨ws1, jw1, gq1⟩ := hg1 _ hmem _ hm1 x (del H4 Dl) rx1
          refine gq1 H6 ex6 _ _ ⟨wipe_eq (by rw [setW_length, wipe_length]) fun k hk => ?_, ?_⟩
          · rw [setW_out ws1 _ fun p hp (z : p.1 = k) => hk (by rw [← z]; exact jw1.keys (hj1 _ hmem _ hm1) p hp), wipe_get hk]
          · have E4 : EnvOk K (del H4 Dl) (setW (wipe σ vs) ws) (setJ (wipeG Γ vs) (jd src[i])) := E1.mono (cw.1.trans (del_mono (e2.trans e4)))
            have E6 : EnvOk K H6 (setW (wipe (setW (wipe σ vs) ws) vs1) ws1) (setJ (wipeG (setJ (wipeG Γ vs) (jd src[i])) vs1) (jd1 src[i] (src1 src[i])[j])) := (jw1.env (E4.wipe vs1)).mono ex6
            refine ht _ hmem _ hm1 _ H6 E6 _ fun H7 e7 => ?_
            have cw7 := (cw5.mono e6).mono e7
            have ex7 : Ex (del H4 Dl) (del H7 Dl) := ex5.trans (del_mono (e6.trans e7))
            have tk1 := take_succ_fm (f src[i]) (v src[i]) (src1 src[i]) j (src1 src[i])[j] hs1
            cases hf : f src[i] (src1 src[i])[j] with
            | false =>
              show Ex (del H4 Dl) (del H7 Dl) ∧ Cw K H1 Dl ((src.take i).flatMap (fun a => ((src1 a).filter (f a)).map (v a)) ++ (((src1 src[i]).take (j + 1)).filter (f src[i])).map (v src[i])) H7
              rw [tk1, hf]
              exact ⟨ex7, by simpa using cw7⟩
            | true =>
              show te (setW (wipe (setW (wipe σ vs) ws) vs1) ws1) H7 fun y H8 => ∃ acc, H8 Dl = some (.lst acc) ∧ acc.length < sizeLine ∧ Ex (del H4 Dl) (del (upd H8 Dl (.lst (acc ++ [y]))) Dl) ∧ Cw K H1 Dl ((src.take i).flatMap (fun a => ((src1 a).filter (f a)).map (v a)) ++ (((src1 src[i]).take (j + 1)).filter (f src[i])).map (v src[i])) (upd H8 Dl (.lst (acc ++ [y])))
              refine he _ hmem _ hm1 hf _ H7 (E6.mono e7) _ fun y H8 e8 ry => ?_
              obtain ⟨acc0, hacc7, _⟩ := cw7.2
              rw [tk1, hf]
              obtain ⟨acc, a1, a2, a3⟩ := (cw7.mono e8).snoc (ry Dl _ hacc7) (by
                have b1 := hl i
                have b2 := hl1 _ hmem
                have b3 := filter_len_le (f src[i]) ((src1 src[i]).take j)
                have b4 : ((src1 src[i]).take j).length ≤ (src1 src[i]).length := by rw [List.length_take]; omega
                rw [List.length_append, List.length_map]
                omega)
              refine ⟨acc, a1, a2, ex7.trans (del_upd e8), ?_⟩
              simpa using a3
        · have hjj : j = (src1 src[i]).length := by omega
          subst hjj
          rw [List.length_map] at x2
          rw [List.take_length] at cw5
          refine .inl ⟨x2, ?_⟩
          show Cw K H1 Dl ((src.take (i + 1)).flatMap fun a => ((src1 a).filter (f a)).map (v a)) H5
          rw [tk]
          exact cw5
    · have hii : i = src.length := by omega
      subst hii
      rw [List.length_map] at w2
      rw [List.take_length] at cw
      obtain ⟨vs', hv1, hv2⟩ := cw.2
      exact .inl ⟨w2, q Dl vs' H' (fresh_back e1 hD) (e1.trans ex) hv1 (DpAll.mono del_ex hv2)⟩
end
end KW

set_option Elab.async false
set_option linter.all false
set_option maxRecDepth 100000
set_option maxHeartbeats 4000000
/-! statements by data: slots that hold data that does not change, and lists and dicts of the def's own -/
namespace KW
open PySem PySem.Spec PyProof.Rows L2 Evl

inductive Sl where
  | no
  | im (d : D)
  | ow (ds : List D)
  | dk (kvs : List (Int × Int))
  | mt (rows : List (List Int))
  | pl (m : Nat)
def Sl.toD : Sl → Option D
  | .no => none
  | .im d => some d
  | .ow ds => some (.list ds)
  | .dk kvs => some (dI kvs)
  | .mt rows => some (.list (rows.map lI))
  | .pl _ => none
abbrev SS := List Sl
def gm (S : SS) : G := S.map Sl.toD
def Own (K : PySem.W.Frag) (e : Sl) (v : V) (Hm H : Hp) (as : List Addr) : Prop := match e with
  | .no => as = []
  | .im d => Rp K Hm v d ∧ as = []
  | .ow ds => ∃ l vs, v = .ref l ∧ as = [l] ∧ H l = some (.lst vs) ∧ DpAll K Hm vs ds
  | .dk kvs => ∃ l, v = .ref l ∧ as = [l] ∧ H l = some (.dK (kvs.map kvV))
  | .mt rows => ∃ l, v = .ref l ∧ Hm l = some (.lst (as.map .ref)) ∧ Paired (fun a row => H a = some (.lst (row.map .int))) as rows ∧ as.Nodup
  | .pl m => ∃ (l r c : Addr) (ns : List Int) (at' : Int), v = .ref l ∧ as = [c] ∧ Hm l = some (.lst [.ref r, .ref c]) ∧ Hm r = some (.lst (ns.map .int)) ∧ H c = some (.lst [.int at']) ∧ 0 ≤ at' ∧ at' ≤ (m : Int) ∧ 0 < ns.length ∧ ns.length ≤ 80 ∧ ∀ x ∈ ns, 0 ≤ x ∧ x < (4096 : Int)
structure SA (K : PySem.W.Frag) (Hm H : Hp) (σ : L2.St) (S : SS) (A : Nat → List Addr) : Prop where
  ex : Ex Hm H
  len : S.length = σ.length
  own : ∀ (i : Nat) e, S[i]? = some e → e ≠ .no → ∃ v, σ[i]? = some (some v) ∧ Own K e v Hm H (A i)
  empty : ∀ (i : Nat), (S[i]? = none ∨ S[i]? = some .no) → A i = []
  sep : ∀ (i j : Nat) a, i ≠ j → a ∈ A i → a ∈ A j → False
  out : ∀ (i : Nat) a, a ∈ A i → Hm a = none
def isImm : HO → Bool
  | .tup _ => true
  | .frz _ _ => true
  | _ => false
section
variable {K : PySem.W.Frag} {e : Sl} {v : V} {Hm Hm' H H' : Hp} {as : List Addr} {σ : L2.St} {S : SS} {A : Nat → List Addr}
theorem Paired.memL {α β : Type} {F : α → β → Prop} : ∀ {l₁ : List α} {l₂ : List β} {a : α}, Paired F l₁ l₂ → a ∈ l₁ → ∃ b, F a b
  | _, _, _, .nil, h => by cases h
  | _, _, a, .cons h t, m => by
    rcases List.mem_cons.mp m with rfl | m
    · exact ⟨_, h⟩
    · exact Paired.memL t m
theorem Own.kept (h : Own K e v Hm H as) (e1 : Ex Hm Hm') (e2 : ∀ a ∈ as, ∀ o, H a = some o → H' a = some o) : Own K e v Hm' H' as := by
  cases e with
  | no => exact h
  | im d => exact ⟨h.1.mono e1, h.2⟩
  | ow ds =>
    obtain ⟨l, vs, a, b, c, d⟩ := h
    subst b
    exact ⟨l, vs, a, rfl, e2 l (by simp) _ c, DpAll.mono e1 d⟩
  | dk kvs =>
    obtain ⟨l, a, b, c⟩ := h
    subst b
    exact ⟨l, a, rfl, e2 l (by simp) _ c⟩
  | mt rows =>
    obtain ⟨l, a, b, c, d⟩ := h
    refine ⟨l, a, e1 _ _ b, ?_, d⟩
    clear b d
    induction c with
    | nil => exact .nil
    | cons h t ih => exact .cons (e2 _ (by simp) _ h) (ih fun a ha => e2 a (by simp [ha]))
  | pl m =>
    obtain ⟨l, r, c, ns, at', a, b, c1, c2, c3, c4⟩ := h
    subst b
    exact ⟨l, r, c, ns, at', a, rfl, e1 _ _ c1, e1 _ _ c2, e2 c (by simp) _ c3, c4⟩
theorem Own.there (h : Own K e v Hm H as) : ∀ a ∈ as, ∃ o, H a = some o ∧ isImm o = false := fun a ha => by
  cases e with
  | no => rw [show as = [] from h] at ha; cases ha
  | im d => rw [h.2] at ha; cases ha
  | ow ds =>
    obtain ⟨l, vs, _, b, c, _⟩ := h
    subst b
    rw [List.mem_singleton.mp ha]
    exact ⟨_, c, rfl⟩
  | dk kvs =>
    obtain ⟨l, _, b, c⟩ := h
    subst b
    rw [List.mem_singleton.mp ha]
    exact ⟨_, c, rfl⟩
  | mt rows =>
    obtain ⟨l, _, b, c, _⟩ := h
    obtain ⟨row, q⟩ := Paired.memL c ha
    exact ⟨_, q, rfl⟩
  | pl m =>
    obtain ⟨l, r, c, ns, at', _, b, _, _, c3, _⟩ := h
    subst b
    rw [List.mem_singleton.mp ha]
    exact ⟨_, c3, rfl⟩
theorem rows_dp {K : PySem.W.Frag} {H : Hp} : ∀ {as : List Addr} {rows : List (List Int)}, Paired (fun a row => H a = some (.lst (row.map .int))) as rows → DpAll K H (as.map .ref) (rows.map lI)
  | _, _, .nil => .nil
  | _, _, .cons h t => .cons (.lst (sq_of h) (DpAll.of_ints _)) (rows_dp t)
theorem Own.rp {d : D} (h : Own K e v Hm H as) (x : Ex Hm H) (q : e.toD = some d) : Rp K H v d := by
  cases e with
  | no => cases q
  | im d' => cases q; exact h.1.mono x
  | ow ds =>
    cases q
    obtain ⟨l, vs, rfl, _, c, d⟩ := h
    exact .inl (.lst (sq_of c) (DpAll.mono x d))
  | dk kvs =>
    cases q
    obtain ⟨l, rfl, _, c⟩ := h
    exact .inr ⟨l, kvs, rfl, rfl, c⟩
  | mt rows =>
    cases q
    obtain ⟨l, rfl, b, c, _⟩ := h
    exact .inl (.lst (sq_of (x _ _ b)) (rows_dp c))
  | pl m => cases q
theorem SA.env (h : SA K Hm H σ S A) : EnvOk K H σ (gm S) := by
  refine ⟨by simp [gm, h.len], fun i d q => ?_⟩
  unfold gm at q
  rw [List.getElem?_map] at q
  cases hs : S[i]? with
  | none => rw [hs] at q; cases q
  | some e =>
    rw [hs] at q
    have q' : e.toD = some d := by simpa using q
    obtain ⟨v, a, b⟩ := h.own i e hs (by rintro rfl; cases q')
    exact ⟨v, a, b.rp h.ex q'⟩
open Classical in
noncomputable def strip (H : Hp) (A : Nat → List Addr) : Hp := fun a => if ∃ i, a ∈ A i then none else H a
theorem strip_in {a : Addr} {i : Nat} (h : a ∈ A i) : strip H A a = none := by unfold strip; rw [if_pos ⟨i, h⟩]
theorem strip_out {a : Addr} (h : ∀ i, a ∉ A i) : strip H A a = H a := by unfold strip; rw [if_neg (fun ⟨i, q⟩ => h i q)]
theorem strip_ex : Ex (strip H A) H := fun a o h => by
  by_cases q : ∃ i, a ∈ A i
  · obtain ⟨i, q⟩ := q
    rw [strip_in q] at h
    cases h
  · rw [strip_out fun i z => q ⟨i, z⟩] at h
    exact h
theorem SA.strip_of (h : SA K Hm H σ S A) (x : Ex H H') : Ex Hm (strip H' A) := fun a o q => by
  rw [strip_out]
  · exact x _ _ (h.ex a o q)
  · intro i hi
    rw [h.out i a hi] at q
    cases q
theorem SA.there (h : SA K Hm H σ S A) {i : Nat} {a : Addr} (ha : a ∈ A i) : ∃ o, H a = some o ∧ isImm o = false := by
  cases hs : S[i]? with
  | none => rw [h.empty i (.inl hs)] at ha; cases ha
  | some e =>
    by_cases he : e = .no
    · subst he
      rw [h.empty i (.inr hs)] at ha
      cases ha
    · obtain ⟨v, _, b⟩ := h.own i e hs he
      exact b.there a ha
theorem SA.grow (h : SA K Hm H σ S A) (x : Ex H H') : SA K (strip H' A) H' σ S A where
  ex := strip_ex
  len := h.len
  own := fun i e q n => by
    obtain ⟨v, a, b⟩ := h.own i e q n
    exact ⟨v, a, b.kept (h.strip_of x) fun c _ o z => x c o z⟩
  empty := h.empty
  sep := h.sep
  out := fun i a ha => strip_in ha
theorem SA.sqT (h : SA K Hm H σ S A) (x : Ex H H') : ∀ a ys, SqT K H' a ys → SqT K (strip H' A) a ys := fun a ys q => by
  have key : ∀ o, H' a = some o → isImm o = true → strip H' A a = some o := fun o ho hi => by
    rw [strip_out, ho]
    intro i ha
    obtain ⟨o', h1, h2⟩ := h.there ha
    rw [x _ _ h1] at ho
    cases ho
    rw [hi] at h2
    cases h2
  rcases q with (q | ⟨o, q⟩) | q
  · exact .inl (.inl (key _ q rfl))
  · exact .inl (.inr ⟨o, key _ q rfl⟩)
  · exact .inr q
/-- a slot anew -/
def setA (A : Nat → List Addr) (i : Nat) (as : List Addr) : Nat → List Addr := fun k => if k = i then as else A k
theorem setA_same {i : Nat} {as : List Addr} : setA A i as i = as := by unfold setA; rw [if_pos rfl]
theorem setA_ne {i k : Nat} {as : List Addr} (h : k ≠ i) : setA A i as k = A k := by unfold setA; rw [if_neg h]
theorem SA.put {i : Nat} {v : V} (h : SA K Hm H σ S A) (hi : i < S.length) (o : Own K e v Hm H as) (hs : ∀ j a, j ≠ i → a ∈ as → a ∈ A j → False) (ho : ∀ a ∈ as, Hm a = none) (hn : e = .no → as = []) : SA K Hm H (σ.set i (some v)) (S.set i e) (setA A i as) where
  ex := h.ex
  len := by simp [h.len]
  own := fun k e' q n => by
    by_cases hk : i = k
    · subst hk
      rw [List.getElem?_set_self hi] at q
      cases q
      exact ⟨v, by rw [List.getElem?_set_self (by rw [← h.len]; exact hi)], by rw [setA_same]; exact o⟩
    · rw [List.getElem?_set_ne hk] at q
      rw [List.getElem?_set_ne hk, setA_ne (Ne.symm hk)]
      exact h.own k e' q n
  empty := fun k q => by
    by_cases hk : i = k
    · subst hk
      rw [List.getElem?_set_self hi] at q
      rw [setA_same]
      rcases q with q | q
      · cases q
      · exact hn (Option.some.inj q)
    · rw [List.getElem?_set_ne hk] at q
      rw [setA_ne (Ne.symm hk)]
      exact h.empty k q
  sep := fun k j a hkj hk hj => by
    by_cases h1 : k = i
    · subst h1
      rw [setA_same] at hk
      rw [setA_ne (Ne.symm hkj)] at hj
      exact hs j a (Ne.symm hkj) hk hj
    · rw [setA_ne h1] at hk
      by_cases h2 : j = i
      · subst h2
        rw [setA_same] at hj
        exact hs k a h1 hj hk
      · rw [setA_ne h2] at hj
        exact h.sep k j a hkj hk hj
  out := fun k a ha => by
    by_cases h1 : k = i
    · subst h1
      rw [setA_same] at ha
      exact ho a ha
    · rw [setA_ne h1] at ha
      exact h.out k a ha
theorem SA.putIm {i : Nat} {d : D} (h : SA K Hm H σ S A) (hi : i < S.length) (r : Rp K Hm v d) : SA K Hm H (σ.set i (some v)) (S.set i (.im d)) (setA A i []) :=
  h.put (e := .im d) (as := []) hi ⟨r, rfl⟩ (fun _ _ _ z => by cases z) (fun _ z => by cases z) fun z => by cases z
/-- the base below: one address less (a new list) -/
theorem SA.less {p : Addr} (h : SA K Hm H σ S A) (hp : ∀ i, p ∉ A i) (hd : ∀ (i : Nat) e v, S[i]? = some e → e ≠ .no → σ[i]? = some (some v) → Own K e v Hm H (A i) → Own K e v (del Hm p) H (A i)) : SA K (del Hm p) H σ S A where
  ex := del_ex.trans h.ex
  len := h.len
  own := fun i e q n => by
    obtain ⟨v, a, b⟩ := h.own i e q n
    exact ⟨v, a, hd i e v q n a b⟩
  empty := h.empty
  sep := h.sep
  out := fun i a ha => by
    by_cases e : a = p
    · subst e; exact del_same
    · rw [del_ne e]; exact h.out i a ha
/-- an owned object is written -/
theorem SA.write {i : Nat} {a : Addr} {o : HO} {e' : Sl} {v : V} (h : SA K Hm H σ S A) (ha : a ∈ A i) (hv : σ[i]? = some (some v)) (ow : Own K e' v Hm (upd H a o) (A i)) (hn : e' ≠ .no) : SA K Hm (upd H a o) σ (S.set i e') A where
  ex := fun b u q => by
    have : b ≠ a := fun z => by subst z; rw [h.out i b ha] at q; cases q
    rw [upd_ne this]
    exact h.ex b u q
  len := by simp [h.len]
  own := fun k e q n => by
    by_cases hk : i = k
    · subst hk
      by_cases hi : i < S.length
      · rw [List.getElem?_set_self hi] at q
        cases q
        exact ⟨v, hv, ow⟩
      · rw [List.getElem?_eq_none (by simpa using hi)] at q
        cases q
    · rw [List.getElem?_set_ne hk] at q
      obtain ⟨v', x, y⟩ := h.own k e q n
      refine ⟨v', x, y.kept (Ex.refl _) fun c hc u z => ?_⟩
      have : c ≠ a := fun z => by subst z; exact h.sep i k c hk ha hc
      rw [upd_ne this]
      exact z
  empty := fun k q => by
    by_cases hk : i = k
    · subst hk
      by_cases hi : i < S.length
      · rw [List.getElem?_set_self hi] at q
        rcases q with q | q
        · cases q
        · exact absurd (Option.some.inj q) hn
      · exact h.empty i (.inl (List.getElem?_eq_none (by omega)))
    · rw [List.getElem?_set_ne hk] at q
      exact h.empty k q
  sep := h.sep
  out := h.out
end

/-! ### the state, over a base -/
def SB (K : PySem.W.Frag) (B H : Hp) (σ : L2.St) (S : SS) : Prop := ∃ Hm A, Ex B Hm ∧ SA K Hm H σ S A
theorem SB.mono {K : PySem.W.Frag} {B B' H : Hp} {σ : L2.St} {S : SS} (e : Ex B B') (h : SB K B' H σ S) : SB K B H σ S := let ⟨Hm, A, a, b⟩ := h; ⟨Hm, A, e.trans a, b⟩
theorem SB.ex {K : PySem.W.Frag} {B H : Hp} {σ : L2.St} {S : SS} (h : SB K B H σ S) : Ex B H := let ⟨_, _, a, b⟩ := h; a.trans b.ex
theorem SB.env {K : PySem.W.Frag} {B H : Hp} {σ : L2.St} {S : SS} (h : SB K B H σ S) : EnvOk K H σ (gm S) := let ⟨_, _, _, b⟩ := h; b.env
structure Post where
  nx : SS → Prop
  rt : VK
  bk : SS → Prop := fun _ => False
  ct : SS → Prop := fun _ => False
def Run (K : PySem.W.Frag) (B : Hp) (t : TS) (S : SS) (P : Post) : Prop :=
  ∀ B', Ex B B' → ∀ (D : Ends) σ H, SB K B' H σ S → (∀ σ' H' S', SB K B' H' σ' S' → P.nx S' → D.nx σ' H') → (∀ v H', P.rt v H' → D.rt v H') →
    (∀ σ' H' S', SB K B' H' σ' S' → P.bk S' → D.bk σ' H') → (∀ σ' H' S', SB K B' H' σ' S' → P.ct S' → D.ct σ' H') → t D σ H
section
variable {K : PySem.W.Frag} {B : Hp} {S : SS} {P : Post} {t u : TS} {te ta tb : TE} {tt : TT} {d d1 d2 : D} {ds es : List D} {i j : Nat} {b : Bool}
theorem run_nx (h : P.nx S) : Run K B tNext S P := fun B' e D σ H sb nx _ _ _ => nx σ H S sb h
theorem run_seq (h : Run K B t S { P with nx := fun S' => Run K B u S' P }) : Run K B (tSeq t u) S P := fun B' e D σ H sb nx rt bk ct =>
  h B' e { D with nx := u D } σ H sb (fun σ' H' S' sb' r => r B' e D σ' H' sb' nx rt bk ct) rt bk ct
theorem run_if (h : EvB K tt (gm S) b) (h1 : b = true → Run K B t S P) (h2 : b = false → Run K B u S P) : Run K B (tIfS tt t u) S P := fun B' e D σ H sb nx rt bk ct =>
  h σ H sb.env _ fun H1 e1 => by
    have sb1 : SB K B' H1 σ S := by
      obtain ⟨Hm, A, a, sa⟩ := sb
      exact ⟨_, A, a.trans (sa.strip_of e1), sa.grow e1⟩
    cases b with
    | true =>
      show t D σ H1
      exact h1 rfl B' e D σ H1 sb1 nx rt bk ct
    | false =>
      show u D σ H1
      exact h2 rfl B' e D σ H1 sb1 nx rt bk ct
theorem SB.grow {H H' : Hp} {σ : L2.St} (sb : SB K B H σ S) (e : Ex H H') : SB K B H' σ S := by
  obtain ⟨Hm, A, a, sa⟩ := sb
  exact ⟨_, A, a.trans (sa.strip_of e), sa.grow e⟩
/-- a value without lists is kept in a slot -/
theorem SB.putR {H H' : Hp} {σ : L2.St} {v : V} (sb : SB K B H σ S) (e : Ex H H') (n : noL d = true) (r : Rp K H' v d) (hi : i < S.length) : SB K B H' (σ.set i (some v)) (S.set i (.im d)) := by
  obtain ⟨Hm, A, a, sa⟩ := sb
  exact ⟨_, _, a.trans (sa.strip_of e), (sa.grow e).putIm hi (Rp.mapT (sa.sqT e) n r)⟩
theorem fresh_own {Hm H : Hp} {σ : L2.St} {A : Nat → List Addr} {p : Addr} (sa : SA K Hm H σ S A) (np : H p = none) : ∀ i, p ∉ A i := fun i hi => by
  obtain ⟨o, h1, _⟩ := sa.there hi
  rw [np] at h1
  cases h1
/-- a new list of one's own -/
theorem SB.putF {H H' : Hp} {σ : L2.St} {p : Addr} {vs : List V} (sb : SB K B H σ S) (e : Ex H H') (n : noLs ds = true) (np : H p = none) (hp : H' p = some (.lst vs)) (r : DpAll K H' vs ds) (hi : i < S.length) : SB K B H' (σ.set i (some (.ref p))) (S.set i (.ow ds)) := by
  obtain ⟨Hm, A, a, sa⟩ := sb
  have hA := fresh_own sa np
  have npm : Hm p = none := by
    cases q : Hm p with
    | none => rfl
    | some o => rw [sa.ex p o q] at np; cases np
  have e1 : Ex Hm (del (strip H' A) p) := fun c o q => by
    have : c ≠ p := fun z => by subst z; rw [npm] at q; cases q
    rw [del_ne this]
    exact sa.strip_of e c o q
  have sa1 : SA K (del (strip H' A) p) H' σ S A :=
    { ex := del_ex.trans strip_ex, len := sa.len, empty := sa.empty, sep := sa.sep
      own := fun i e' q m => by
        obtain ⟨v, x, y⟩ := sa.own i e' q m
        exact ⟨v, x, y.kept e1 fun c _ o z => e c o z⟩
      out := fun i c hc => by
        by_cases z : c = p
        · subst z; exact del_same
        · rw [del_ne z]; exact strip_in hc }
  have sp : strip H' A p = some (.lst vs) := by rw [strip_out hA]; exact hp
  refine ⟨_, _, a.trans e1, sa1.put (e := .ow ds) (as := [p]) hi ⟨p, vs, rfl, rfl, hp, ?_⟩ (fun k c _ hc hk => ?_) (fun c hc => ?_) (fun z => by cases z)⟩
  · exact DpAll.mapT (fun b ys q => del_sqT sp b ys (sa.sqT e b ys q)) ds vs n r
  · rw [List.mem_singleton.mp hc] at hk
    exact hA k hk
  · rw [List.mem_singleton.mp hc]; exact del_same
/-- a new list that will not change -/
theorem SB.putFi {H H' : Hp} {σ : L2.St} {p : Addr} {vs : List V} (sb : SB K B H σ S) (e : Ex H H') (n : noLs ds = true) (np : H p = none) (hp : H' p = some (.lst vs)) (r : DpAll K H' vs ds) (hi : i < S.length) : SB K B H' (σ.set i (some (.ref p))) (S.set i (.im (.list ds))) := by
  obtain ⟨Hm, A, a, sa⟩ := sb
  have hA := fresh_own sa np
  exact ⟨_, _, a.trans (sa.strip_of e), (sa.grow e).putIm hi (.inl (.lst (sq_of (by rw [strip_out hA]; exact hp)) (DpAll.mapT (sa.sqT e) ds vs n r)))⟩
theorem SB.putD {H H' : Hp} {σ : L2.St} {p : Addr} {kvs : List (Int × Int)} (sb : SB K B H σ S) (e : Ex H H') (np : H p = none) (hp : H' p = some (.dK (kvs.map kvV))) (hi : i < S.length) : SB K B H' (σ.set i (some (.ref p))) (S.set i (.dk kvs)) := by
  obtain ⟨Hm, A, a, sa⟩ := sb
  have hA := fresh_own sa np
  have npm : Hm p = none := by
    cases q : Hm p with
    | none => rfl
    | some o => rw [sa.ex p o q] at np; cases np
  have e1 : Ex Hm (del (strip H' A) p) := fun c o q => by
    have : c ≠ p := fun z => by subst z; rw [npm] at q; cases q
    rw [del_ne this]
    exact sa.strip_of e c o q
  have sa1 : SA K (del (strip H' A) p) H' σ S A :=
    { ex := del_ex.trans strip_ex, len := sa.len, empty := sa.empty, sep := sa.sep
      own := fun i e' q m => by
        obtain ⟨v, x, y⟩ := sa.own i e' q m
        exact ⟨v, x, y.kept e1 fun c _ o z => e c o z⟩
      out := fun i c hc => by
        by_cases z : c = p
        · subst z; exact del_same
        · rw [del_ne z]; exact strip_in hc }
  refine ⟨_, _, a.trans e1, sa1.put (e := .dk kvs) (as := [p]) hi ⟨p, rfl, rfl, hp⟩ (fun k c _ hc hk => ?_) (fun c hc => ?_) (fun z => by cases z)⟩
  · rw [List.mem_singleton.mp hc] at hk
    exact hA k hk
  · rw [List.mem_singleton.mp hc]; exact del_same
/-! name = value -/
theorem run_setR (h : EvR K te (gm S) d) (n : noL d = true) (hi : i < S.length) (k : P.nx (S.set i (.im d))) : Run K B (tAsg te (gName i)) S P := fun B' e D σ H sb nx rt bk ct =>
  h σ H sb.env _ fun v H1 e1 r1 => nx _ H1 _ (sb.putR e1 n r1 hi) k
theorem run_setF (h : EvF K te (gm S) ds) (n : noLs ds = true) (hi : i < S.length) (k : P.nx (S.set i (.ow ds))) : Run K B (tAsg te (gName i)) S P := fun B' e D σ H sb nx rt bk ct =>
  h σ H sb.env _ fun p vs H1 np e1 hp r1 => nx _ H1 _ (sb.putF e1 n np hp r1 hi) k
theorem run_setFi (h : EvF K te (gm S) ds) (n : noLs ds = true) (hi : i < S.length) (k : P.nx (S.set i (.im (.list ds)))) : Run K B (tAsg te (gName i)) S P := fun B' e D σ H sb nx rt bk ct =>
  h σ H sb.env _ fun p vs H1 np e1 hp r1 => nx _ H1 _ (sb.putFi e1 n np hp r1 hi) k
theorem run_setD {kvs : List (Int × Int)} (h : EvD K te (gm S) kvs) (hi : i < S.length) (k : P.nx (S.set i (.dk kvs))) : Run K B (tAsg te (gName i)) S P := fun B' e D σ H sb nx rt bk ct =>
  h σ H sb.env _ fun p H1 np e1 hp => nx _ H1 _ (sb.putD e1 np hp hi) k
/-! a, b = x, y -/
theorem run_parRR (ha : EvR K ta (gm S) d1) (hb : EvR K tb (gm S) d2) (n1 : noL d1 = true) (n2 : noL d2 = true) (hi : i < S.length) (hj : j < S.length) (k : P.nx ((S.set i (.im d1)).set j (.im d2))) : Run K B (tPar i j (tCons ta (tCons tb tNil))) S P := fun B' e D σ H sb nx rt bk ct =>
  ha σ H sb.env _ fun v H1 e1 r1 => hb σ H1 (sb.env.mono e1) _ fun w H2 e2 r2 => ⟨v, w, rfl, nx _ H2 _ ((sb.putR (e1.trans e2) n1 (r1.mono e2) hi).putR (Ex.refl H2) n2 r2 (by simpa using hj)) k⟩
theorem run_parRF (ha : EvR K ta (gm S) d1) (hb : EvF K tb (gm S) ds) (n1 : noL d1 = true) (n2 : noLs ds = true) (hi : i < S.length) (hj : j < S.length) (k : P.nx ((S.set i (.im d1)).set j (.ow ds))) : Run K B (tPar i j (tCons ta (tCons tb tNil))) S P := fun B' e D σ H sb nx rt bk ct =>
  ha σ H sb.env _ fun v H1 e1 r1 => hb σ H1 (sb.env.mono e1) _ fun p vs H2 np e2 hp r2 => ⟨v, _, rfl, nx _ H2 _ (((sb.putR e1 n1 r1 hi).putF e2 n2 np hp r2 (by simpa using hj))) k⟩
theorem run_parFR (ha : EvF K ta (gm S) ds) (hb : EvR K tb (gm S) d2) (n1 : noLs ds = true) (n2 : noL d2 = true) (hi : i < S.length) (hj : j < S.length) (k : P.nx ((S.set i (.ow ds)).set j (.im d2))) : Run K B (tPar i j (tCons ta (tCons tb tNil))) S P := fun B' e D σ H sb nx rt bk ct =>
  ha σ H sb.env _ fun p vs H1 np e1 hp r1 => hb σ H1 (sb.env.mono e1) _ fun w H2 e2 r2 => ⟨_, w, rfl, nx _ H2 _ (((sb.putF e1 n1 np hp r1 hi).putR e2 n2 r2 (by simpa using hj))) k⟩
/-! return -/
theorem run_retR (h : EvR K te (gm S) d) (k : ∀ v H', Ex B H' → Rp K H' v d → P.rt v H') : Run K B (tRet te) S P := fun B' e D σ H sb nx rt bk ct =>
  h σ H sb.env _ fun v H1 e1 r1 => rt v H1 (k v H1 ((e.trans sb.ex).trans e1) r1)
theorem run_retF (h : EvF K te (gm S) ds) (k : ∀ p vs H', B p = none → Ex B H' → H' p = some (.lst vs) → DpAll K H' vs ds → P.rt (.ref p) H') : Run K B (tRet te) S P := fun B' e D σ H sb nx rt bk ct =>
  h σ H sb.env _ fun p vs H1 np e1 hp r1 => rt _ H1 (k p vs H1 (fresh_back (e.trans sb.ex) np) ((e.trans sb.ex).trans e1) hp r1)
theorem run_retO (hs : S[i]? = some (.ow ds)) (k : ∀ p vs H', B p = none → Ex B H' → H' p = some (.lst vs) → DpAll K H' vs ds → P.rt (.ref p) H') : Run K B (tRet (tVar i)) S P := fun B' e D σ H sb nx rt bk ct => by
  have ex := sb.ex
  obtain ⟨Hm, A, a, sa⟩ := sb
  obtain ⟨v, h1, h2⟩ := sa.own i _ hs (by intro z; cases z)
  obtain ⟨l, vs, rfl, hA, hl, hd⟩ := h2
  have npm : Hm l = none := sa.out i l (by rw [hA]; simp)
  exact ⟨_, h1, rt _ H (k l vs H (fresh_back (e.trans a) npm) (e.trans ex) hl (DpAll.mono sa.ex hd))⟩
theorem run_retOD {kvs : List (Int × Int)} (hs : S[i]? = some (.dk kvs)) (k : ∀ p H', B p = none → Ex B H' → H' p = some (.dK (kvs.map kvV)) → P.rt (.ref p) H') : Run K B (tRet (tVar i)) S P := fun B' e D σ H sb nx rt bk ct => by
  have ex := sb.ex
  obtain ⟨Hm, A, a, sa⟩ := sb
  obtain ⟨v, h1, h2⟩ := sa.own i _ hs (by intro z; cases z)
  obtain ⟨l, rfl, hA, hl⟩ := h2
  have npm : Hm l = none := sa.out i l (by rw [hA]; simp)
  exact ⟨_, h1, rt _ H (k l H (fresh_back (e.trans a) npm) (e.trans ex) hl)⟩
/-! x += e -/
theorem run_aug {f : Int → Int → Int} {a c : Int} (hx : (gm S)[i]? = some (some (.int a))) (h : EvR K te (gm S) (.int c)) (hi : i < S.length) (k : P.nx (S.set i (.im (.int (f a c))))) : Run K B (tAug i te (ipI f)) S P := fun B' e D σ H sb nx rt bk ct => by
  obtain ⟨v, h1, h2⟩ := sb.env.2 i _ hx
  rw [h2.int] at h1
  exact ⟨_, h1, h σ H sb.env _ fun v H1 e1 r1 => ⟨a, c, rfl, r1.int, nx _ H1 _ (sb.putR e1 (d := .int (f a c)) rfl (.inl (.int _)) hi) k⟩⟩
/-! lists of one's own -/
theorem run_app (hs : S[i]? = some (.ow ds)) (h : EvR K te (gm S) d) (n : noL d = true) (hz : ds.length < 100000) (k : P.nx (S.set i (.ow (ds ++ [d])))) : Run K B (tDrop (tBM K "list" rAppend (tVar i) (tCons te tNil))) S P := fun B' e D σ H sb nx rt bk ct => by
  obtain ⟨Hm, A, a, sa⟩ := sb
  obtain ⟨v, h1, h2⟩ := sa.own i _ hs (by intro z; cases z)
  obtain ⟨l, vs, rfl, hA, hl, hd⟩ := h2
  refine ⟨_, h1, .inl ⟨rfl, _, SqL.of hl⟩, h σ H sa.env _ fun v H1 e1 r1 => ?_⟩
  have sa1 := sa.grow e1
  have r2 := Rp.mapT (sa.sqT e1) n r1
  have hl1 := e1 _ _ hl
  have hlA : l ∈ A i := by rw [hA]; simp
  have hd1 := DpAll.mono (sa.strip_of e1) hd
  refine ⟨l, vs, v, rfl, rfl, hl1, sz_lt (by rw [DpAll.length hd]; exact hz), nx _ _ _ ⟨_, A, a.trans (sa.strip_of e1), sa1.write (e' := .ow (ds ++ [d])) hlA h1 ⟨l, vs ++ [v], rfl, hA, upd_same, DpAll.append hd1 (.cons (r2.dp (noL_dict n)) .nil)⟩ (by intro z; cases z)⟩ k⟩
/-- a new list is appended -/
theorem run_appF (hs : S[i]? = some (.ow ds)) (h : EvF K te (gm S) es) (n : noLs es = true) (hz : ds.length < 100000) (k : P.nx (S.set i (.ow (ds ++ [.list es])))) : Run K B (tDrop (tBM K "list" rAppend (tVar i) (tCons te tNil))) S P := fun B' e D σ H sb nx rt bk ct => by
  obtain ⟨Hm, A, a, sa⟩ := sb
  obtain ⟨v, h1, h2⟩ := sa.own i _ hs (by intro z; cases z)
  obtain ⟨l, vs, rfl, hA, hl, hd⟩ := h2
  refine ⟨_, h1, .inl ⟨rfl, _, SqL.of hl⟩, h σ H sa.env _ fun p ws H1 np e1 hp r1 => ?_⟩
  have sa1 := sa.grow e1
  have hl1 := e1 _ _ hl
  have hlA : l ∈ A i := by rw [hA]; simp
  have hd1 := DpAll.mono (sa.strip_of e1) hd
  have r2 : Dp K (strip H1 A) (.ref p) (.list es) := .lst (sq_of (by rw [strip_out (fresh_own sa np)]; exact hp)) (DpAll.mapT (sa.sqT e1) es ws n r1)
  refine ⟨l, vs, _, rfl, rfl, hl1, sz_lt (by rw [DpAll.length hd]; exact hz), nx _ _ _ ⟨_, A, a.trans (sa.strip_of e1), sa1.write (e' := .ow (ds ++ [.list es])) hlA h1 ⟨l, vs ++ [.ref p], rfl, hA, upd_same, DpAll.append hd1 (.cons r2 .nil)⟩ (by intro z; cases z)⟩ k⟩
/-- xs[i], xs[j] = x, y -/
theorem run_swap {t1 t2 : TE} {k1 k2 : Int} {j1 j2 : Nat} (hs : S[i]? = some (.ow ds)) (ha : EvR K ta (gm S) d1) (hb : EvR K tb (gm S) d2) (n1 : noL d1 = true) (n2 : noL d2 = true) (h1 : EvR K t1 (gm S) (.int k1)) (hj1 : ixN ds.length k1 = some j1)
    (h2 : EvR K t2 (gm (S.set i (.ow (ds.set j1 d1)))) (.int k2)) (hj2 : ixN ds.length k2 = some j2) (k : P.nx (S.set i (.ow ((ds.set j1 d1).set j2 d2)))) :
    Run K B (tAsg (tTup (tCons ta (tCons tb tNil))) (gTup K 2 (gCons (gSub (tVar i) t1 rSetL) (gCons (gSub (tVar i) t2 rSetL) gNil)))) S P := fun B' e D σ H sb nx rt bk ct => by
  obtain ⟨Hm, A, a, sa⟩ := sb
  obtain ⟨v, hv, ho⟩ := sa.own i _ hs (by intro z; cases z)
  obtain ⟨l, vs, rfl, hA, hl, hd⟩ := ho
  have hiS : i < S.length := (List.getElem?_eq_some_iff.mp hs).1
  refine ha σ H sa.env _ fun x H1 e1 r1 => hb σ H1 (sa.env.mono e1) _ fun y H2 e2 r2 => ⟨by show 2 ≤ sizeLine; decide, fun q hq => ?_⟩
  have e12 := e1.trans e2
  have e3 : Ex H (upd H2 q (.tup [x, y])) := e12.trans (Ex.new hq)
  refine ⟨q, [x, y], rfl, st_of upd_same, rfl, x, [y], rfl, ?_⟩
  -- the first store
  generalize hH3 : upd H2 q (.tup [x, y]) = H3 at e3
  have e23 : Ex H2 H3 := by rw [← hH3]; exact Ex.new hq
  have sa3 := sa.grow e3
  have hlA : l ∈ A i := by rw [hA]; simp
  have x3 := Rp.mapT (sa.sqT e3) n1 ((r1.mono e2).mono e23)
  have y3 := Rp.mapT (sa.sqT e3) n2 (r2.mono e23)
  have hd3 := DpAll.mono (sa.strip_of e3) hd
  refine ⟨_, hv, h1 σ H3 sa3.env _ fun z H4 e4 r4 => ?_⟩
  rw [r4.int]
  have e34 := e4
  have sa4 := sa3.grow e34
  have x4 := x3.mono (sa3.strip_of e34)
  have y4 := y3.mono (sa3.strip_of e34)
  have hd4 := DpAll.mono (sa3.strip_of e34) hd3
  have hl4 : H4 l = some (.lst vs) := e34 _ _ (e3 _ _ hl)
  refine ⟨l, vs, k1, j1, rfl, rfl, hl4, by rw [DpAll.length hd]; exact hj1, ?_⟩
  have sa5 : SA K (strip H4 A) (upd H4 l (.lst (vs.set j1 x))) σ (S.set i (.ow (ds.set j1 d1))) A :=
    sa4.write (e' := .ow (ds.set j1 d1)) hlA hv ⟨l, vs.set j1 x, rfl, hA, upd_same, DpAll.set j1 hd4 (x4.dp (noL_dict n1))⟩ (by intro z; cases z)
  refine ⟨y, [], rfl, _, hv, h2 σ _ sa5.env _ fun z H6 e6 r6 => ?_⟩
  rw [r6.int]
  have sa6 := sa5.grow e6
  have hl6 : H6 l = some (.lst (vs.set j1 x)) := e6 _ _ upd_same
  refine ⟨l, vs.set j1 x, k2, j2, rfl, rfl, hl6, by rw [List.length_set, DpAll.length hd]; exact hj2, rfl, ?_⟩
  have y6 := y4.mono (sa5.strip_of e6)
  have hd6 := DpAll.mono (sa5.strip_of e6) (DpAll.set j1 hd4 (x4.dp (noL_dict n1)))
  have sa7 : SA K (strip H6 A) (upd H6 l (.lst ((vs.set j1 x).set j2 y))) σ ((S.set i (.ow (ds.set j1 d1))).set i (.ow ((ds.set j1 d1).set j2 d2))) A :=
    sa6.write (e' := .ow ((ds.set j1 d1).set j2 d2)) hlA hv ⟨l, (vs.set j1 x).set j2 y, rfl, hA, upd_same, DpAll.set j2 hd6 (y6.dp (noL_dict n2))⟩ (by intro z; cases z)
  rw [List.set_set] at sa7
  exact nx _ _ _ ⟨_, A, ((a.trans (sa.strip_of e3)).trans (sa3.strip_of e34)).trans (sa5.strip_of e6), sa7⟩ k
/-- xs[i] = x -/
theorem run_put {t1 : TE} {k1 : Int} {j1 : Nat} (hs : S[i]? = some (.ow ds)) (ha : EvR K ta (gm S) d1) (n1 : noL d1 = true) (h1 : EvR K t1 (gm S) (.int k1)) (hj1 : ixN ds.length k1 = some j1)
    (k : P.nx (S.set i (.ow (ds.set j1 d1)))) : Run K B (tAsg ta (gSub (tVar i) t1 rSetL)) S P := fun B' e D σ H sb nx rt bk ct => by
  obtain ⟨Hm, A, a, sa⟩ := sb
  obtain ⟨v, hv, ho⟩ := sa.own i _ hs (by intro z; cases z)
  obtain ⟨l, vs, rfl, hA, hl, hd⟩ := ho
  refine ha σ H sa.env _ fun x H1 e1 r1 => ⟨_, hv, h1 σ H1 (sa.env.mono e1) _ fun z H4 e4 r4 => ?_⟩
  rw [r4.int]
  have e14 := e1.trans e4
  have sa4 := sa.grow e14
  have hlA : l ∈ A i := by rw [hA]; simp
  have x4 := Rp.mapT (sa.sqT e14) n1 (r1.mono e4)
  have hd4 := DpAll.mono (sa.strip_of e14) hd
  have hl4 : H4 l = some (.lst vs) := e14 _ _ hl
  refine ⟨l, vs, k1, j1, rfl, rfl, hl4, by rw [DpAll.length hd]; exact hj1, ?_⟩
  exact nx _ _ _ ⟨_, A, a.trans (sa.strip_of e14), sa4.write (e' := .ow (ds.set j1 d1)) hlA hv ⟨l, vs.set j1 x, rfl, hA, upd_same, DpAll.set j1 hd4 (x4.dp (noL_dict n1))⟩ (by intro z; cases z)⟩ k
/-! loops -/
theorem run_while (W : Nat → SS → Prop) (m0 : Nat) (h0 : W m0 S)
    (hs : ∀ m S', W m S' → ∃ b, EvB K tt (gm S') b ∧ (b = true → Run K B t S' { P with nx := fun S'' => ∃ m', m' < m ∧ W m' S'', ct := fun S'' => ∃ m', m' < m ∧ W m' S'', bk := P.nx }) ∧ (b = false → P.nx S')) : Run K B (tWhile tt t) S P := fun B' e D σ H sb nx rt bk ct => by
  refine ⟨fun m σ H => ∃ S', SB K B' H σ S' ∧ W m S', ⟨m0, S, sb, h0⟩, ?_⟩
  rintro m σ1 H1 ⟨S', sb', w⟩
  obtain ⟨b, hb, h1, h2⟩ := hs m S' w
  refine hb σ1 H1 sb'.env _ fun H2 e2 => ?_
  have sb2 := sb'.grow e2
  cases b with
  | true =>
    refine iteT ⟨fun σ2 H3 => ∃ m' S'', SB K B' H3 σ2 S'' ∧ m' < m ∧ W m' S'', ?_, ?_⟩
    · rintro σ2 H3 ⟨m', S'', q1, q2, q3⟩
      exact ⟨m', q2, S'', q1, q3⟩
    · refine h1 rfl B' e _ σ1 H2 sb2 ?_ rt nx ?_
      · rintro σ2 H3 S'' q1 ⟨m', q2, q3⟩
        exact ⟨m', S'', q1, q2, q3⟩
      · rintro σ2 H3 S'' q1 ⟨m', q2, q3⟩
        exact ⟨m', S'', q1, q2, q3⟩
  | false => exact iteF (nx _ _ _ sb2 (h2 rfl))
/-- what a for walks, in a state -/
def EvItS (K : PySem.W.Frag) (wi : TI) (S : SS) (ds : List D) : Prop :=
  ∀ Hm H σ A, SA K Hm H σ S A → ∀ R : It → Hp → Prop, (∀ J Hm' H', Ex Hm Hm' → SA K Hm' H' σ S A → WalksD K J Hm' ds → R J H') → wi σ H R
theorem its_rng1 {ta : TA} {n : Int} (h : EvAs K ta (gm S) [.int n]) (hn : -(2 ^ 62) ≤ n ∧ n < 2 ^ 62) : EvItS K (iRng1 ta) S ((rgI 0 n.toNat).map .int) := fun Hm H σ A sa R q =>
  h σ H sa.env _ fun vs H1 e1 r => by
    obtain ⟨v, rfl, r1⟩ := rp1 r
    exact ⟨n, by rw [r1.int], hn.1, hn.2, q _ _ H1 (sa.strip_of e1) (sa.grow e1) (walks_rng _ 0 n.toNat)⟩
theorem its_rng2 {ta : TA} {lo n : Int} (h : EvAs K ta (gm S) [.int lo, .int n]) (hn : -(2 ^ 62) ≤ lo ∧ lo < 2 ^ 62 ∧ -(2 ^ 62) ≤ n ∧ n < 2 ^ 62) : EvItS K (iRng2 ta) S ((rgI lo (n - lo).toNat).map .int) := fun Hm H σ A sa R q =>
  h σ H sa.env _ fun vs H1 e1 r => by
    obtain ⟨v, w, rfl, r1, r2⟩ := rp2 r
    exact ⟨lo, n, by rw [r1.int, r2.int], hn, q _ _ H1 (sa.strip_of e1) (sa.grow e1) (walks_rng _ lo _)⟩
theorem its_tup (h : EvR K te (gm S) (.tuple ds)) (n : noLs ds = true) : EvItS K (iTup K te) S ds := fun Hm H σ A sa R q =>
  h σ H sa.env _ fun v H1 e1 r => by
    obtain ⟨a, vs, rfl, hs, hd⟩ := r.tup
    exact ⟨a, rfl, ⟨vs, hs⟩, q _ _ H1 (sa.strip_of e1) (sa.grow e1) (walks_tup (sa.sqT e1 _ _ hs) (DpAll.mapT (sa.sqT e1) _ _ n hd))⟩
theorem its_lst (hs : S[i]? = some (.im (.list ds))) : EvItS K (iList K (tVar i)) S ds := fun Hm H σ A sa R q => by
  obtain ⟨v, h1, h2⟩ := sa.own i _ hs (by intro z; cases z)
  obtain ⟨a, vs, rfl, hl, hd⟩ := h2.1.lst
  exact ⟨_, h1, a, rfl, ⟨vs, ex_l sa.ex hl⟩, q _ Hm H (Ex.refl _) sa (walks_lst hl hd)⟩
/-- over a new list -/
theorem its_new (h : EvF K te (gm S) ds) (n : noLs ds = true) : EvItS K (iList K te) S ds := fun Hm H σ A sa R q =>
  h σ H sa.env _ fun p vs H1 np e1 hp hd => by
    have hl : strip H1 A p = some (.lst vs) := by rw [strip_out (fresh_own sa np)]; exact hp
    exact ⟨p, rfl, ⟨vs, sq_of hp⟩, q _ _ H1 (sa.strip_of e1) (sa.grow e1) (walks_lst (sq_of hl) (DpAll.mapT (sa.sqT e1) _ _ n hd))⟩
def setS (S : SS) (js : List (Nat × D)) : SS := js.foldl (fun S p => S.set p.1 (.im p.2)) S
theorem JW.sa {Hm H : Hp} : ∀ {ws : List (Nat × V)} {js : List (Nat × D)} {σ : L2.St} {S : SS} {A : Nat → List Addr}, JW K Hm ws js → (∀ p ∈ js, p.1 < S.length) → SA K Hm H σ S A → ∃ A', SA K Hm H (setW σ ws) (setS S js) A'
  | _, _, _, _, A, .nil, _, sa => ⟨A, sa⟩
  | _, _, σ, S, A, .cons (a := w) (b := j) h t, hl, sa => by
    obtain ⟨h1, h2⟩ := h
    have sa1 := sa.putIm (hl j List.mem_cons_self) h2
    show ∃ A', SA K Hm H (setW (σ.set w.1 (some w.2)) _) (setS (S.set j.1 (.im j.2)) _) A'
    rw [h1]
    exact JW.sa t (fun p hp => by simpa using hl p (List.mem_cons_of_mem _ hp)) sa1
theorem run_for {α : Type} {wi : TI} {g : TG} (src : List α) (emb : α → D) (jd : α → List (Nat × D)) (hi : EvItS K wi S (src.map emb)) (hg : ∀ a ∈ src, Tg K g (emb a) (jd a)) (J : Nat → SS → Prop) (h0 : J 0 S)
    (hjl : ∀ (i : Nat) a S', src[i]? = some a → J i S' → ∀ p ∈ jd a, p.1 < S'.length)
    (hs : ∀ (i : Nat) a S', src[i]? = some a → J i S' → Run K B t (setS S' (jd a)) { P with nx := J (i + 1), ct := J (i + 1), bk := P.nx }) (hd : ∀ S', J src.length S' → P.nx S') : Run K B (tFor wi g t) S P := fun B' e D σ H sb nx rt bk ct => by
  obtain ⟨Hm, A, a, sa⟩ := sb
  refine hi Hm H σ A sa _ fun It Hm' H1 em sa1 w => ?_
  have eB : Ex B' Hm' := a.trans em
  refine ⟨fun i m σ H => m = src.length - i ∧ i ≤ src.length ∧ ∃ S', SB K Hm' H σ S' ∧ J i S', ⟨src.length, by simp, Nat.zero_le _, S, ⟨Hm', A, Ex.refl _, sa1⟩, h0⟩, ?_⟩
  rintro i m σ2 H2 ⟨rfl, hi', S', sb', j'⟩
  obtain ⟨w1, w2⟩ := w H2 sb'.ex
  by_cases hlt : i < src.length
  · have hsrc : src[i]? = some src[i] := List.getElem?_eq_getElem hlt
    obtain ⟨go, step⟩ := w1 i (emb src[i]) (by rw [List.getElem?_map, hsrc]; rfl)
    refine .inr ⟨go, fun σ H => ∃ S', SB K Hm' H σ S' ∧ J (i + 1) S', fun σ H p => ⟨src.length - (i + 1), by omega, rfl, hlt, p⟩, fun x H3 y => ?_⟩
    obtain ⟨e3, rx⟩ := step x H3 y
    obtain ⟨ws, jw, gq⟩ := hg _ (List.getElem_mem hlt) x Hm' rx
    refine gq H3 (sb'.ex.trans e3) _ _ ?_
    have sb3 := sb'.grow e3
    obtain ⟨Hm3, A3, a3, sa3⟩ := sb3
    obtain ⟨A4, sa4⟩ := (jw.mono a3).sa (hjl i _ S' hsrc j') sa3
    refine hs i _ S' hsrc j' Hm' (e.trans eB) _ _ H3 ⟨Hm3, A4, a3, sa4⟩ ?_ rt ?_ ?_
    · intro σ5 H5 S5 q1 q2
      exact ⟨S5, q1, q2⟩
    · intro σ5 H5 S5 q1 q2
      exact nx _ _ _ (q1.mono eB) q2
    · intro σ5 H5 S5 q1 q2
      exact ⟨S5, q1, q2⟩
  · have hii : i = src.length := by omega
    subst hii
    rw [List.length_map] at w2
    exact .inl ⟨w2, nx _ _ _ (sb'.mono eB) (hd S' j')⟩
/-- the loop as a fold -/
theorem run_for_fold {α β : Type} {wi : TI} {g : TG} (src : List α) (emb : α → D) (jd : α → List (Nat × D)) (hi : EvItS K wi S (src.map emb)) (hg : ∀ a ∈ src, Tg K g (emb a) (jd a)) (J : β → SS → Prop) (f : β → α → β) (b0 : β) (h0 : J b0 S)
    (hjl : ∀ b a S', a ∈ src → J b S' → ∀ p ∈ jd a, p.1 < S'.length)
    (hs : ∀ (i : Nat) b a S', src[i]? = some a → b = (src.take i).foldl f b0 → J b S' → Run K B t (setS S' (jd a)) { P with nx := J (f b a), ct := J (f b a), bk := P.nx }) (hd : ∀ S', J (src.foldl f b0) S' → P.nx S') : Run K B (tFor wi g t) S P := by
  refine run_for src emb jd hi hg (fun i S' => J ((src.take i).foldl f b0) S') h0 (fun i a S' q j => hjl _ a S' (List.mem_of_getElem? q) j) (fun i a S' q j => ?_) (fun S' j => hd S' (by rw [List.take_length] at j; exact j))
  have := hs i _ a S' q rfl j
  have e : (src.take (i + 1)).foldl f b0 = f ((src.take i).foldl f b0) a := by
    rw [List.take_add_one, q, List.foldl_append]
    rfl
  rw [e]
  exact this
end
/-! ### the post is weakened -/
theorem Run.imp {K : PySem.W.Frag} {B : Hp} {t : TS} {S : SS} {P P' : Post} (h : Run K B t S P) (n : ∀ S', P.nx S' → P'.nx S') (r : ∀ v H, P.rt v H → P'.rt v H) (b : ∀ S', P.bk S' → P'.bk S') (c : ∀ S', P.ct S' → P'.ct S') : Run K B t S P' := fun B' e D σ H sb nx rt bk ct =>
  h B' e D σ H sb (fun σ' H' S' q z => nx σ' H' S' q (n S' z)) (fun v H' z => rt v H' (r v H' z)) (fun σ' H' S' q z => bk σ' H' S' q (b S' z)) (fun σ' H' S' q z => ct σ' H' S' q (c S' z))
end KW

set_option Elab.async false
set_option linter.all false
set_option maxRecDepth 100000
set_option maxHeartbeats 4000000
/-! promises of defs by data; dicts of ints -/
namespace KW
open PySem PySem.Spec PyProof.Rows L2 Evl

/-- hands back data -/
def spR (K : PySem.W.Frag) (F : List D → D → Prop) : Sp := fun vs H Q _ => ∃ ds d, RpAll K H vs ds ∧ F ds d ∧ ∀ v H', Ex H H' → Rp K H' v d → Q v H'
/-- hands back a new list -/
def spF (K : PySem.W.Frag) (F : List D → List D → Prop) : Sp := fun vs H Q _ => ∃ ds es, RpAll K H vs ds ∧ F ds es ∧ ∀ p ws H', H p = none → Ex H H' → H' p = some (.lst ws) → DpAll K H' ws es → Q (.ref p) H'
/-- hands back a new dict -/
def spD (K : PySem.W.Frag) (F : List D → List (Int × Int) → Prop) : Sp := fun vs H Q _ => ∃ ds es, RpAll K H vs ds ∧ F ds es ∧ ∀ p H', H p = none → Ex H H' → H' p = some (.dK (es.map kvV)) → Q (.ref p) H'
section
variable {K : PySem.W.Frag} {Γ : G} {ta : TA} {ds es : List D} {d : D} {E : XK}
theorem ev_call {F : List D → D → Prop} (h : EvAs K ta Γ ds) (hF : F ds d) : EvR K (tCall (spR K F) [] E ta) Γ d := fun σ H Ev Q q => h σ H Ev _ fun vs H1 e1 r1 => by
  show spR K F (vs ++ []) H1 Q E
  rw [List.append_nil]
  exact ⟨ds, d, r1, hF, fun v H' e2 r2 => q v H' (e1.trans e2) r2⟩
theorem ef_call {F : List D → List D → Prop} (h : EvAs K ta Γ ds) (hF : F ds es) : EvF K (tCall (spF K F) [] E ta) Γ es := fun σ H Ev Q q => h σ H Ev _ fun vs H1 e1 r1 => by
  show spF K F (vs ++ []) H1 Q E
  rw [List.append_nil]
  exact ⟨ds, es, r1, hF, fun p ws H' n e2 hp r2 => q p ws H' (fresh_back e1 n) (e1.trans e2) hp r2⟩
theorem ed_call {F : List D → List (Int × Int) → Prop} {kvs : List (Int × Int)} (h : EvAs K ta Γ ds) (hF : F ds kvs) : EvD K (tCall (spD K F) [] E ta) Γ kvs := fun σ H Ev Q q => h σ H Ev _ fun vs H1 e1 r1 => by
  show spD K F (vs ++ []) H1 Q E
  rw [List.append_nil]
  exact ⟨ds, kvs, r1, hF, fun p H' n e2 hp => q p H' (fresh_back e1 n) (e1.trans e2) hp⟩
end

/-! ### the start of a def -/
def initS (n : Nat) (ds : List D) : SS := ds.map Sl.im ++ List.replicate (n - ds.length) Sl.no
theorem start_sb {K : PySem.W.Frag} {H : Hp} {N : List Str} {vs : List V} {ds : List D} (r : RpAll K H vs ds) : SB K H H (L2.start N vs) (initS N.length ds) := by
  have hl := Paired.length r
  refine ⟨H, fun _ => [], Ex.refl H, ⟨Ex.refl H, ?_, fun i e q n => ?_, fun _ _ => rfl, fun _ _ _ _ z => (by cases z), fun _ _ z => (by cases z)⟩⟩
  · simp [initS, L2.start, hl]
  · unfold initS at q
    by_cases hi : i < ds.length
    · rw [List.getElem?_append_left (by simpa using hi), List.getElem?_map, List.getElem?_eq_getElem hi] at q
      cases q
      have key : ∀ {vs : List V} {ds : List D} {j : Nat} {d : D}, RpAll K H vs ds → ds[j]? = some d → ∃ v, vs[j]? = some v ∧ Rp K H v d := by
        intro vs ds j d h
        induction h generalizing j with
        | nil => intro e; simp at e
        | cons a b ih =>
          intro e
          cases j with
          | zero => simp at e; subst e; exact ⟨_, rfl, a⟩
          | succ j =>
            obtain ⟨v, h1, h2⟩ := ih (by simpa using e)
            exact ⟨v, by simpa using h1, h2⟩
      obtain ⟨v, h1, h2⟩ := key r (List.getElem?_eq_getElem hi)
      refine ⟨v, ?_, h2, rfl⟩
      unfold L2.start
      rw [List.getElem?_append_left (by simpa [hl] using hi), List.getElem?_map, h1]
      rfl
    · rw [List.getElem?_append_right (by simpa using hi)] at q
      have := List.mem_of_getElem? q
      exact absurd (List.mem_replicate.mp this).2 n
section
variable {P : Program} {w : World} {K : PySem.W.Frag} {mg : Str → Option Value} {base : Heap} {x qual : Str} {st : Stmt} {f : Addr} {fd : FuncData} {N ps : List Str} {k : Nat}
abbrev rtR (K : PySem.W.Frag) (B : Hp) (d : D) : VK := fun v H' => Ex B H' ∧ Rp K H' v d
abbrev rtF (K : PySem.W.Frag) (B : Hp) (ds : List D) : VK := fun v H' => ∃ p vs, v = .ref p ∧ B p = none ∧ Ex B H' ∧ H' p = some (.lst vs) ∧ DpAll K H' vs ds
abbrev rtD (K : PySem.W.Frag) (B : Hp) (kvs : List (Int × Int)) : VK := fun v H' => ∃ p, v = .ref p ∧ B p = none ∧ Ex B H' ∧ H' p = some (.dK (kvs.map kvV))
/-- the body with its term, and what it does by data -/
theorem def_R (F : Fun K x qual st f fd) (S : FnScope N ps (defScope st)) (Fr : List D → D → Prop) (hl : ∀ ds d, Fr ds d → ds.length = ps.length)
    (hb : ∀ (cdv : Value) (A : Around) (outer : List Env) (s : Shared) (H : Hp) (E : XK), Room k (A.deeper (envOfC qual (defScope st) s.heap.objs.size f cdv)) →
      ∃ t, PSs (cxOf CX0 P w K mg base N qual (defScope st) f cdv A outer s H E).nox (defBody st) t ∧ ∀ ds d, Fr ds d → ∀ B, Run K B t (initS N.length ds) { nx := fun _ => False, rt := rtR K B d }) : FnOk P w K mg base CX0 (k + 1) f fd ps (spR K Fr) := by
  refine F.ok S (fun vs H Q E h => ?_) (fun cdv A outer s H vs Q E hr h => ?_)
  · obtain ⟨ds, d, r, q, _⟩ := h
    rw [Paired.length r]
    exact hl ds d q
  · obtain ⟨ds, d, r, q, z⟩ := h
    obtain ⟨t, ht, hrun⟩ := hb cdv A outer s H E hr
    exact ⟨t, ht, hrun ds d q H H (Ex.refl H) _ _ H (start_sb r) (fun _ _ _ _ z => z.elim) (fun v H' y => z v H' y.1 y.2) (fun _ _ _ _ z => z.elim) (fun _ _ _ _ z => z.elim)⟩
theorem def_F (F : Fun K x qual st f fd) (S : FnScope N ps (defScope st)) (Fr : List D → List D → Prop) (hl : ∀ ds d, Fr ds d → ds.length = ps.length)
    (hb : ∀ (cdv : Value) (A : Around) (outer : List Env) (s : Shared) (H : Hp) (E : XK), Room k (A.deeper (envOfC qual (defScope st) s.heap.objs.size f cdv)) →
      ∃ t, PSs (cxOf CX0 P w K mg base N qual (defScope st) f cdv A outer s H E).nox (defBody st) t ∧ ∀ ds d, Fr ds d → ∀ B, Run K B t (initS N.length ds) { nx := fun _ => False, rt := rtF K B d }) : FnOk P w K mg base CX0 (k + 1) f fd ps (spF K Fr) := by
  refine F.ok S (fun vs H Q E h => ?_) (fun cdv A outer s H vs Q E hr h => ?_)
  · obtain ⟨ds, d, r, q, _⟩ := h
    rw [Paired.length r]
    exact hl ds d q
  · obtain ⟨ds, d, r, q, z⟩ := h
    obtain ⟨t, ht, hrun⟩ := hb cdv A outer s H E hr
    exact ⟨t, ht, hrun ds d q H H (Ex.refl H) _ _ H (start_sb r) (fun _ _ _ _ z => z.elim) (fun v H' ⟨p, vs', e, y1, y2, y3, y4⟩ => by subst e; exact z p vs' H' y1 y2 y3 y4) (fun _ _ _ _ z => z.elim) (fun _ _ _ _ z => z.elim)⟩
theorem def_D (F : Fun K x qual st f fd) (S : FnScope N ps (defScope st)) (Fr : List D → List (Int × Int) → Prop) (hl : ∀ ds d, Fr ds d → ds.length = ps.length)
    (hb : ∀ (cdv : Value) (A : Around) (outer : List Env) (s : Shared) (H : Hp) (E : XK), Room k (A.deeper (envOfC qual (defScope st) s.heap.objs.size f cdv)) →
      ∃ t, PSs (cxOf CX0 P w K mg base N qual (defScope st) f cdv A outer s H E).nox (defBody st) t ∧ ∀ ds d, Fr ds d → ∀ B, Run K B t (initS N.length ds) { nx := fun _ => False, rt := rtD K B d }) : FnOk P w K mg base CX0 (k + 1) f fd ps (spD K Fr) := by
  refine F.ok S (fun vs H Q E h => ?_) (fun cdv A outer s H vs Q E hr h => ?_)
  · obtain ⟨ds, d, r, q, _⟩ := h
    rw [Paired.length r]
    exact hl ds d q
  · obtain ⟨ds, d, r, q, z⟩ := h
    obtain ⟨t, ht, hrun⟩ := hb cdv A outer s H E hr
    exact ⟨t, ht, hrun ds d q H H (Ex.refl H) _ _ H (start_sb r) (fun _ _ _ _ z => z.elim) (fun v H' ⟨p, e, y1, y2, y3⟩ => by subst e; exact z p H' y1 y2 y3) (fun _ _ _ _ z => z.elim) (fun _ _ _ _ z => z.elim)⟩
end
/-! returns in the forms that the defs want -/
section
variable {K : PySem.W.Frag} {B : Hp} {S : SS} {te : TE} {d : D} {ds : List D} {i : Nat} {kvs : List (Int × Int)} {nx bk ct : SS → Prop}
theorem ret_R (h : EvR K te (gm S) d) : Run K B (tRet te) S ⟨nx, rtR K B d, bk, ct⟩ := run_retR h fun v H' e r => ⟨e, r⟩
theorem ret_F (h : EvF K te (gm S) ds) : Run K B (tRet te) S ⟨nx, rtF K B ds, bk, ct⟩ := run_retF h fun p vs H' n e hp hd => ⟨p, vs, rfl, n, e, hp, hd⟩
theorem ret_O (h : S[i]? = some (.ow ds)) : Run K B (tRet (tVar i)) S ⟨nx, rtF K B ds, bk, ct⟩ := run_retO h fun p vs H' n e hp hd => ⟨p, vs, rfl, n, e, hp, hd⟩
theorem ret_D (h : EvD K te (gm S) kvs) : Run K B (tRet te) S ⟨nx, rtD K B kvs, bk, ct⟩ := fun B' e D σ H sb nx rt bk ct =>
  h σ H sb.env _ fun p H1 np e1 hp => rt _ H1 ⟨p, rfl, fresh_back (e.trans sb.ex) np, (e.trans sb.ex).trans e1, hp⟩
theorem ret_OD (h : S[i]? = some (.dk kvs)) : Run K B (tRet (tVar i)) S ⟨nx, rtD K B kvs, bk, ct⟩ := run_retOD h fun p H' n e hp => ⟨p, rfl, n, e, hp⟩
end

/-! ### dicts of ints by ints -/
def lookI (kvs : List (Int × Int)) (k : Int) : Option Int := (kvs.find? fun p => decide (p.1 = k)).map (·.2)
def putI (kvs : List (Int × Int)) (k v : Int) : List (Int × Int) := if (kvs.any fun p => decide (p.1 = k)) = true then kvs.map (fun p => if p.1 = k then (p.1, v) else p) else kvs ++ [(k, v)]
theorem dec_inl (a b : Int) : decide ((Sum.inl a : Key) = Sum.inl b) = decide (a = b) := by
  by_cases h : a = b
  · subst h; simp
  · rw [decide_eq_false h, decide_eq_false fun z => h (Sum.inl.inj z)]
theorem valV_kv (k : Int) : ∀ kvs : List (Int × Int), valV (kvs.map kvV) (Sum.inl k) = (lookI kvs k).map V.int
  | [] => rfl
  | p :: r => by
    have ih := valV_kv k r
    by_cases e : p.1 = k
    · rw [List.map_cons, valV_pos (p := kvV p) (by show Sum.inl p.1 = _; rw [e])]
      simp [lookI, List.find?_cons, e, kvV]
    · rw [List.map_cons, valV_neg (p := kvV p) (by show ¬ Sum.inl p.1 = _; exact fun z => e (Sum.inl.inj z)), ih]
      simp [lookI, List.find?_cons, e]
theorem any_kv (k : Int) (kvs : List (Int × Int)) : ((kvs.map kvV).any fun kv => decide (kv.1 = Sum.inl k)) = (kvs.any fun p => decide (p.1 = k)) := by
  rw [List.any_map]
  congr 1
  funext p
  exact dec_inl p.1 k
theorem putK_kv (k v : Int) (kvs : List (Int × Int)) : putK (kvs.map kvV) (Sum.inl k) (V.int v) = (putI kvs k v).map kvV := by
  unfold putK putI
  rw [any_kv]
  by_cases h : (kvs.any fun p => decide (p.1 = k)) = true
  · rw [if_pos h, if_pos h, List.map_map, List.map_map]
    apply List.map_congr_left
    intro p _
    by_cases e : p.1 = k
    · simp [kvV, e]
    · have : ¬ (Sum.inl p.1 : Key) = Sum.inl k := fun z => e (Sum.inl.inj z)
      simp [kvV, e]
  · rw [if_neg h, if_neg h, List.map_append]
    rfl
section
variable {K : PySem.W.Frag} {Γ : G} {td ty tx tv : TE} {kvs : List (Int × Int)} {k x : Int}
theorem ed_new : EvD K tDNewK Γ [] := fun σ H E Q q p hp => q p _ hp (Ex.new hp) upd_same
theorem ev_dget (h : EvR K td Γ (dI kvs)) (hk : EvR K ty Γ (.int k)) (hx : lookI kvs k = some x) : EvR K (tDGet td ty) Γ (.int x) := fun σ H E Q q =>
  h σ H E _ fun v H1 e1 r1 => hk σ H1 (E.mono e1) _ fun y H2 e2 r2 => by
    obtain ⟨a, rfl, ha⟩ := (r1.mono e2).dict
    rw [r2.int]
    refine ⟨a, .int x, rfl, ?_, q _ H2 (e1.trans e2) (.inl (.int x))⟩
    have := DGet.k (k := Sum.inl k) ha
    rw [valV_kv, hx] at this
    exact this
theorem ev_dget2 (h : EvR K td Γ (dI kvs)) (hk : EvR K ty Γ (.int k)) (hx : EvR K tx Γ (.int x)) : EvR K (tDGet2 td ty tx) Γ (.int ((lookI kvs k).getD x)) := fun σ H E Q q =>
  h σ H E _ fun v H1 e1 r1 => by
    obtain ⟨a, rfl, ha⟩ := r1.dict
    refine ⟨a, rfl, .inl ⟨_, .inl ha⟩, hk σ H1 (E.mono e1) _ fun y H2 e2 r2 => hx σ H2 (E.mono (e1.trans e2)) _ fun z H3 e3 r3 => ?_⟩
    rw [r2.int, r3.int]
    have := DGet.k (k := Sum.inl k) (e3 _ _ (e2 _ _ ha))
    rw [valV_kv] at this
    refine ⟨_, this, q _ H3 ((e1.trans e2).trans e3) ?_⟩
    cases lookI kvs k with
    | none => exact .inl (.int _)
    | some y => exact .inl (.int _)
end
section
variable {K : PySem.W.Frag} {B : Hp} {S : SS} {P : Post} {ty tv : TE} {kvs : List (Int × Int)} {k x : Int} {i : Nat}
theorem run_dput (hs : S[i]? = some (.dk kvs)) (hx : EvR K tv (gm S) (.int x)) (hk : EvR K ty (gm S) (.int k)) (hz : kvs.length < 100000) (q : P.nx (S.set i (.dk (putI kvs k x)))) : Run K B (sDPut (tVar i) ty tv) S P := fun B' e D σ H sb nx rt bk ct => by
  obtain ⟨Hm, A, a, sa⟩ := sb
  obtain ⟨v, hv, ho⟩ := sa.own i _ hs (by intro z; cases z)
  obtain ⟨l, rfl, hA, hl⟩ := ho
  refine hx σ H sa.env _ fun xv H1 e1 r1 => ⟨_, hv, hk σ H1 (sa.env.mono e1) _ fun y H2 e2 r2 => ?_⟩
  rw [r1.int, r2.int]
  have e12 := e1.trans e2
  have hl2 := e12 _ _ hl
  refine ⟨l, _, rfl, DPut.k (k := Sum.inl k) hl2 (by rw [List.length_map]; exact sz_lt hz), ?_⟩
  rw [putK_kv]
  have sa2 := sa.grow e12
  exact nx _ _ _ ⟨_, A, a.trans (sa.strip_of e12), sa2.write (e' := .dk (putI kvs k x)) (by rw [hA]; simp) hv ⟨l, rfl, hA, upd_same⟩ (by intro z; cases z)⟩ q
end
/-- the dict of a comprehension -/
def Cd (K : PySem.W.Frag) (H0 : Hp) (D : Addr) (kvs : List (Int × Int)) (H : Hp) : Prop := Ex H0 (del H D) ∧ H D = some (.dK (kvs.map kvV))
theorem putI_length (kvs : List (Int × Int)) (k v : Int) : (putI kvs k v).length ≤ kvs.length + 1 := by
  unfold putI
  split <;> simp
theorem foldl_putI_length {α : Type} (fk fv : α → Int) : ∀ (l : List α) (acc : List (Int × Int)), (l.foldl (fun kvs a => putI kvs (fk a) (fv a)) acc).length ≤ acc.length + l.length
  | [], acc => by simp
  | a :: l, acc => by
    have h1 := foldl_putI_length fk fv l (putI acc (fk a) (fv a))
    have h2 := putI_length acc (fk a) (fv a)
    simp only [List.foldl_cons, List.length_cons]
    omega
section
variable {K : PySem.W.Frag} {Γ : G} {wi : TI} {g : TG} {tk tv : TE} {vs : List Nat} {α : Type}
theorem ed_dc (src : List α) (emb : α → D) (jd : α → List (Nat × D)) (fk fv : α → Int) (hi : EvIt K wi Γ (src.map emb)) (hg : ∀ a ∈ src, Tg K g (emb a) (jd a)) (hj : ∀ a ∈ src, ∀ p ∈ jd a, p.1 ∈ vs)
    (hk : ∀ a ∈ src, EvR K tk (setJ (wipeG Γ vs) (jd a)) (.int (fk a))) (hv : ∀ a ∈ src, EvR K tv (setJ (wipeG Γ vs) (jd a)) (.int (fv a))) (hl : src.length ≤ 90000) :
    EvD K (tDc wi g tYes tk tv vs) Γ (src.foldl (fun kvs a => putI kvs (fk a) (fv a)) []) := fun σ H E Q q =>
  hi σ H E _ fun J H1 e1 w => fun Dl hD => by
    refine ⟨fun i m H' => m = src.length - i ∧ i ≤ src.length ∧ Cd K H1 Dl ((src.take i).foldl (fun kvs a => putI kvs (fk a) (fv a)) []) H', ⟨src.length, by simp, Nat.zero_le _, del_of hD (Ex.new hD), upd_same⟩, ?_⟩
    rintro i m H' ⟨rfl, hi', cw⟩
    have ex : Ex H1 H' := cw.1.trans del_ex
    obtain ⟨w1, w2⟩ := w H' ex
    by_cases hlt : i < src.length
    · have hsrc : src[i]? = some src[i] := List.getElem?_eq_getElem hlt
      have hmem : src[i] ∈ src := List.getElem_mem hlt
      obtain ⟨go, step⟩ := w1 i (emb src[i]) (by rw [List.getElem?_map, hsrc]; rfl)
      refine .inr ⟨go, fun H'' => Cd K H1 Dl ((src.take (i + 1)).foldl (fun kvs a => putI kvs (fk a) (fv a)) []) H'', fun H'' p => ⟨src.length - (i + 1), by omega, rfl, hlt, p⟩, fun x H2 y => ?_⟩
      obtain ⟨e2, rx⟩ := step x H2 y
      obtain ⟨ws, jw, gq⟩ := hg _ hmem x H1 rx
      refine gq H2 (ex.trans e2) _ _ ⟨wipe_eq (by rw [setW_length, wipe_length]) fun k hk => ?_, ?_⟩
      · rw [setW_out ws _ fun p hp (z : p.1 = k) => hk (by rw [← z]; exact jw.keys (hj _ hmem) p hp), wipe_get hk]
      · have E1 : EnvOk K H1 (setW (wipe σ vs) ws) (setJ (wipeG Γ vs) (jd src[i])) := jw.env ((E.mono e1).wipe vs)
        have E2 := E1.mono (ex.trans e2)
        refine iteT (B := Cd K H1 Dl ((src.take (i + 1)).foldl (fun kvs a => putI kvs (fk a) (fv a)) []) H2) (hk _ hmem _ H2 E2 _ fun y H4 e4 r4 => hv _ hmem _ H4 (E2.mono e4) _ fun z H5 e5 r5 => ?_)
        have cw5 : H5 Dl = _ := e5 _ _ (e4 _ _ (e2 _ _ cw.2))
        have b := foldl_putI_length fk fv (src.take i) []
        rw [List.length_take, List.length_nil] at b
        refine ⟨_, Sum.inl (fk src[i]), r4.int, cw5, by rw [List.length_map]; exact sz_lt (by omega), ?_⟩
        rw [r5.int, putK_kv]
        have tk : (src.take (i + 1)).foldl (fun kvs a => putI kvs (fk a) (fv a)) [] = putI ((src.take i).foldl (fun kvs a => putI kvs (fk a) (fv a)) []) (fk src[i]) (fv src[i]) := by
          rw [List.take_add_one, hsrc, List.foldl_append]
          rfl
        rw [tk]
        exact ⟨cw.1.trans (del_upd ((e2.trans e4).trans e5)), upd_same⟩
    · have hii : i = src.length := by omega
      subst hii
      rw [List.length_map] at w2
      rw [List.take_length] at cw
      exact .inl ⟨w2, q Dl H' (fresh_back e1 hD) (e1.trans ex) cw.2⟩
end
end KW

set_option Elab.async false
set_option linter.all false
set_option maxRecDepth 100000
set_option maxHeartbeats 4000000
/-! rules by values that the layer lacks -/
namespace KW
open PySem PySem.Spec PyProof.Rows L2 Evl

/-! ### one rule for + of ints, tuples, lists; one for an item; one for a slice -/
def rAddX (K : PySem.W.Frag) : R2 := fun x y H Q => rI0 (fun i j => .int (i + j)) x y H Q ∨ (rCatA K x y H Q ∨ rCat x y H Q)
theorem op_addX {X : Cx} : OpR X (binaryOp .Add) (rAddX X.K) := op_add.or (op_catA.or op_cat)
def rSlX (K : PySem.W.Frag) : V → Option Int → Option Int → Hp → VK → Prop := fun x lo hi H Q => rSlL K x lo hi H Q ∨ rSlA K x lo hi H Q
theorem sl_X {X : Cx} : SlR X (rSlX X.K) := sl_list.or sl_tupA
def rIxX (K : PySem.W.Frag) : R2 := fun x y H Q => rIxL K x y H Q ∨ rIxT K x y H Q
theorem ix_X {X : Cx} : IxR X (rIxX X.K) := ix_list.or ix_tup
/-- by values -/
def RvR (K : PySem.W.Frag) (r : R2) (d e f : D) : Prop := ∀ x y H, Rp K H x d → Rp K H y e → ∀ Q : VK, (∀ v H', Ex H H' → Rp K H' v f → Q v H') → r x y H Q
def RvF (K : PySem.W.Frag) (r : R2) (d e : D) (ds : List D) : Prop := ∀ x y H, Rp K H x d → Rp K H y e → ∀ Q : VK, (∀ p vs H', H p = none → Ex H H' → H' p = some (.lst vs) → DpAll K H' vs ds → Q (.ref p) H') → r x y H Q
section
variable {K : PySem.W.Frag} {Γ : G} {ta tb te : TE} {d e f : D} {ds es : List D} {i j : Int} {r r' : R2}
theorem RvR.l (h : RvR K r d e f) : RvR K (fun x y H Q => r x y H Q ∨ r' x y H Q) d e f := fun x y H a b Q q => .inl (h x y H a b Q q)
theorem RvR.rr (h : RvR K r' d e f) : RvR K (fun x y H Q => r x y H Q ∨ r' x y H Q) d e f := fun x y H a b Q q => .inr (h x y H a b Q q)
theorem RvF.l (h : RvF K r d e ds) : RvF K (fun x y H Q => r x y H Q ∨ r' x y H Q) d e ds := fun x y H a b Q q => .inl (h x y H a b Q q)
theorem RvF.rr (h : RvF K r' d e ds) : RvF K (fun x y H Q => r x y H Q ∨ r' x y H Q) d e ds := fun x y H a b Q q => .inr (h x y H a b Q q)
theorem rv_addI : RvR K (rI0 fun i j => .int (i + j)) (.int i) (.int j) (.int (i + j)) := fun x y H r1 r2 Q q => ⟨i, j, r1.int, r2.int, q _ H (Ex.refl H) (.inl (.int _))⟩
theorem rv_mulI (h : CMul i j) : RvR K (rI CMul fun i j => .int (i * j)) (.int i) (.int j) (.int (i * j)) := fun x y H r1 r2 Q q => ⟨i, j, r1.int, r2.int, h, q _ H (Ex.refl H) (.inl (.int _))⟩
theorem rv_catT (hl : ds.length + es.length ≤ 100000) : RvR K (rCatA K) (.tuple ds) (.tuple es) (.tuple (ds ++ es)) := fun x y H r1 r2 Q q => by
  obtain ⟨a, vs, rfl, hs, hd⟩ := r1.tup
  obtain ⟨b, ws, rfl, ht, he⟩ := r2.tup
  have l1 := DpAll.length hd
  have l2 := DpAll.length he
  refine ⟨a, b, vs, ws, rfl, rfl, hs, ht, sz_of (by omega), fun z => ?_, fun _ z => ?_, fun _ _ p hp => ?_⟩
  · have z' : ds = [] := List.length_eq_zero_iff.mp (by rw [← l1, z]; rfl)
    rw [z'] at q
    exact q _ H (Ex.refl H) (.inl (.tup ht he))
  · have z' : es = [] := List.length_eq_zero_iff.mp (by rw [← l2, z]; rfl)
    rw [z', List.append_nil] at q
    exact q _ H (Ex.refl H) (.inl (.tup hs hd))
  · exact q _ _ (Ex.new hp) (.inl (.tup (st_of upd_same) (DpAll.mono (Ex.new hp) (DpAll.append hd he))))
theorem ev_addX_I (ha : EvR K ta Γ (.int i)) (hb : EvR K tb Γ (.int j)) : EvR K (tOp (rAddX K) ta tb) Γ (.int (i + j)) := ev_op ha hb (RvR.l rv_addI)
theorem ev_addX_T (ha : EvR K ta Γ (.tuple ds)) (hb : EvR K tb Γ (.tuple es)) (hl : ds.length + es.length ≤ 100000) : EvR K (tOp (rAddX K) ta tb) Γ (.tuple (ds ++ es)) := ev_op ha hb (RvR.rr (RvR.l (rv_catT hl)))
/-- two new lists together -/
theorem ef_addX_L (ha : EvF K ta Γ ds) (hb : EvF K tb Γ es) (hl : ds.length + es.length ≤ 100000) : EvF K (tOp (rAddX K) ta tb) Γ (ds ++ es) := fun σ H E Q q =>
  ha σ H E _ fun p vs H1 np e1 hp hd => hb σ H1 (E.mono e1) _ fun p2 ws H2 np2 e2 hp2 he => .inr (.inr ⟨p, p2, vs, ws, rfl, rfl, e2 _ _ hp, hp2, sz_of (by rw [DpAll.length hd, DpAll.length he]; omega), fun p3 hp3 =>
    q p3 _ _ (fresh_back (e1.trans e2) hp3) ((e1.trans e2).trans (Ex.new hp3)) upd_same (DpAll.mono (Ex.new hp3) (DpAll.append (DpAll.mono e2 hd) he))⟩)
/-- an elder list of the def's own and a new one -/
theorem ev_ixX_T (ha : EvR K ta Γ (.tuple ds)) (hb : EvR K tb Γ (.int i)) (h : atI ds i = some d) : EvR K (tOp (rIxX K) ta tb) Γ d :=
  ev_op ha hb fun x y H r1 r2 Q q => by
    obtain ⟨a, vs, rfl, hs, hd⟩ := r1.tup
    obtain ⟨v, h1, h2⟩ := DpAll.atI hd h
    exact .inr ⟨a, vs, i, v, rfl, r2.int, hs, h1, q v H (Ex.refl H) (.inl h2)⟩
theorem ev_ixX_L (ha : EvR K ta Γ (.list ds)) (hb : EvR K tb Γ (.int i)) (h : atI ds i = some d) : EvR K (tOp (rIxX K) ta tb) Γ d :=
  ev_op ha hb fun x y H r1 r2 Q q => by
    obtain ⟨a, vs, rfl, hs, hd⟩ := r1.lst
    obtain ⟨v, h1, h2⟩ := DpAll.atI hd h
    exact .inl ⟨a, vs, i, v, rfl, r2.int, hs, h1, q v H (Ex.refl H) (.inl h2)⟩
theorem ev_slX_T {tl th : TO} {lo hi : Option Int} (ha : EvR K te Γ (.tuple ds)) (hl : EvP K tl Γ lo) (hh : EvP K th Γ hi) : EvR K (tSl (rSlX K) te tl th) Γ (.tuple (cutD ds lo hi)) := fun σ H E Q q =>
  ha σ H E _ fun v H1 e1 r1 => hl σ H1 (E.mono e1) _ fun H2 e2 => hh σ H2 (E.mono (e1.trans e2)) _ fun H3 e3 => by
    obtain ⟨a, vs, rfl, hs, hd⟩ := (r1.mono (e2.trans e3)).tup
    have e := (e1.trans e2).trans e3
    refine .inr ⟨a, vs, rfl, hs, fun z => ?_, fun _ p hp => ?_⟩
    · have l1 := DpAll.length hd
      have : cutD ds lo hi = ds := by
        unfold cutD
        rw [← l1, z.1, z.2, List.drop_zero, Nat.sub_zero, l1]
        exact List.take_length
      rw [this] at q
      exact q _ H3 e (.inl (.tup hs hd))
    · exact q _ _ (e.trans (Ex.new hp)) (.inl (.tup (st_of upd_same) (DpAll.mono (Ex.new hp) (DpAll.cut lo hi hd))))
theorem ef_slX_L {tl th : TO} {lo hi : Option Int} (ha : EvR K te Γ (.list ds)) (hl : EvP K tl Γ lo) (hh : EvP K th Γ hi) : EvF K (tSl (rSlX K) te tl th) Γ (cutD ds lo hi) := fun σ H E Q q =>
  ha σ H E _ fun v H1 e1 r1 => hl σ H1 (E.mono e1) _ fun H2 e2 => hh σ H2 (E.mono (e1.trans e2)) _ fun H3 e3 => by
    obtain ⟨a, vs, rfl, hs, hd⟩ := (r1.mono (e2.trans e3)).lst
    have e := (e1.trans e2).trans e3
    exact .inl ⟨a, vs, rfl, hs, fun p hp => q p _ _ (fresh_back e hp) (e.trans (Ex.new hp)) upd_same (DpAll.mono (Ex.new hp) (DpAll.cut lo hi hd))⟩
end

/-! ### x in c, x not in c: data of any depth in a list or a tuple -/
def rInA (K : PySem.W.Frag) (neg : Bool) : R2 := fun x y H Q => ∃ d ds, Dp K H x d ∧ (Dp K H y (.list ds) ∨ Dp K H y (.tuple ds)) ∧ SeqAt.shaped d = true ∧ SeqAt.shaped (.list ds) = true ∧ Q (.bl (if neg then !ds.any fun z => PyData.eqv z d else ds.any fun z => PyData.eqv z d)) H
section
variable {X : Cx}
theorem op_inA (hu : X.A.units + 65 < cLine) : OpR X (compareOp .In) (rInA X.K false) := by
  intro pins s σ H x y v u Q I rx ry h
  obtain ⟨d, ds, hd, he, sd, se, q⟩ := h
  obtain ⟨as, r1⟩ := Dp.reads I d x v hd rx
  have hc : PyData.canLayAll0 ds = true := SeqAt.canLay_of_shaped se
  rcases he with he | he
  · obtain ⟨bs, r2⟩ := Dp.reads I (.list ds) y u he ry
    exact SeqAt.in_list_reads r2 r1 hc (SeqAt.canLay_of_shaped sd) (room_in_shaped sd hu) ⟨.bl _, H, I, rfl, q⟩
  · obtain ⟨bs, r2⟩ := Dp.reads I (.tuple ds) y u he ry
    exact SeqAt.in_tuple_reads r2 r1 hc (SeqAt.canLay_of_shaped sd) (room_in_shaped sd hu) ⟨.bl _, H, I, rfl, q⟩
theorem op_notInA (hu : X.A.units + 65 < cLine) : OpR X (compareOp .NotIn) (rInA X.K true) := by
  intro pins s σ H x y v u Q I rx ry h
  obtain ⟨d, ds, hd, he, sd, se, q⟩ := h
  obtain ⟨as, r1⟩ := Dp.reads I d x v hd rx
  have hc : PyData.canLayAll0 ds = true := SeqAt.canLay_of_shaped se
  rcases he with he | he
  · obtain ⟨bs, r2⟩ := Dp.reads I (.list ds) y u he ry
    exact SeqAt.notIn_list_reads r2 r1 hc (SeqAt.canLay_of_shaped sd) (room_in_shaped sd hu) ⟨.bl _, H, I, rfl, q⟩
  · obtain ⟨bs, r2⟩ := Dp.reads I (.tuple ds) y u he ry
    exact SeqAt.notIn_tuple_reads r2 r1 hc (SeqAt.canLay_of_shaped sd) (room_in_shaped sd hu) ⟨.bl _, H, I, rfl, q⟩
end
section
variable {K : PySem.W.Frag} {Γ : G} {ta tb te : TE} {d e f : D} {ds es : List D}
theorem ev_inL (ha : EvR K ta Γ d) (hb : EvR K tb Γ (.list ds)) (nd : isDict d = false) (sd : SeqAt.shaped d = true) (se : SeqAt.shaped (.list ds) = true) : EvR K (tOp (rInA K false) ta tb) Γ (.bool (ds.any fun z => PyData.eqv z d)) :=
  ev_op ha hb fun x y H r1 r2 Q q => ⟨d, ds, r1.dp nd, .inl (r2.dp rfl), sd, se, q _ H (Ex.refl H) (.inl (.bl _))⟩
theorem ev_inT (ha : EvR K ta Γ d) (hb : EvR K tb Γ (.tuple ds)) (nd : isDict d = false) (sd : SeqAt.shaped d = true) (se : SeqAt.shaped (.list ds) = true) : EvR K (tOp (rInA K false) ta tb) Γ (.bool (ds.any fun z => PyData.eqv z d)) :=
  ev_op ha hb fun x y H r1 r2 Q q => ⟨d, ds, r1.dp nd, .inr (r2.dp rfl), sd, se, q _ H (Ex.refl H) (.inl (.bl _))⟩
theorem ev_niL (ha : EvR K ta Γ d) (hb : EvR K tb Γ (.list ds)) (nd : isDict d = false) (sd : SeqAt.shaped d = true) (se : SeqAt.shaped (.list ds) = true) : EvR K (tOp (rInA K true) ta tb) Γ (.bool (!ds.any fun z => PyData.eqv z d)) :=
  ev_op ha hb fun x y H r1 r2 Q q => ⟨d, ds, r1.dp nd, .inl (r2.dp rfl), sd, se, q _ H (Ex.refl H) (.inl (.bl _))⟩
theorem ev_niT (ha : EvR K ta Γ d) (hb : EvR K tb Γ (.tuple ds)) (nd : isDict d = false) (sd : SeqAt.shaped d = true) (se : SeqAt.shaped (.list ds) = true) : EvR K (tOp (rInA K true) ta tb) Γ (.bool (!ds.any fun z => PyData.eqv z d)) :=
  ev_op ha hb fun x y H r1 r2 Q q => ⟨d, ds, r1.dp nd, .inr (r2.dp rfl), sd, se, q _ H (Ex.refl H) (.inl (.bl _))⟩
/-- is, is not of bools -/
theorem ev_isB {a b : Bool} (ha : EvR K ta Γ (.bool a)) (hb : EvR K tb Γ (.bool b)) : EvR K (tOp rIsB ta tb) Γ (.bool (decide (a = b))) :=
  ev_op ha hb fun x y H r1 r2 Q q => ⟨a, b, r1.bool, r2.bool, q _ H (Ex.refl H) (.inl (.bl _))⟩
theorem ev_isNotB {a b : Bool} (ha : EvR K ta Γ (.bool a)) (hb : EvR K tb Γ (.bool b)) : EvR K (tOp rNotB ta tb) Γ (.bool (!decide (a = b))) :=
  ev_op ha hb fun x y H r1 r2 Q q => ⟨a, b, r1.bool, r2.bool, q _ H (Ex.refl H) (.inl (.bl _))⟩
end
theorem inl_shaped {xs : List D} (h : SeqAt.shaped (.tuple xs) = true) : SeqAt.shaped (.list xs) = true := h

/-! ### isinstance -/
def tyD : D → String
  | .none => "NoneType"
  | .bool _ => "bool"
  | .int _ => "int"
  | .str _ => "str"
  | .list _ => "list"
  | .tuple _ => "tuple"
  | .dict _ => "dict"
theorem tyx_of {K : PySem.W.Frag} {H : Hp} {v : V} : ∀ {d : D}, Dp K H v d → d ≠ .none → TyX K H v (.type (tyD d))
  | .bool b, h, _ => by cases h; exact .base (.bl b)
  | .int i, h, _ => by cases h; exact .base (.int i)
  | .str x, h, _ => by cases h; exact .base (.str x)
  | .list ds, h, _ => by
    cases h with
    | lst hs _ =>
      rcases hs with (h | ⟨o, h⟩) | ⟨o, its, n, hk, hc, _⟩
      · exact .base (.lst h)
      · exact .base (.frz h)
      · exact .kList hk hc
  | .tuple ds, h, _ => by
    cases h with
    | tup hs _ =>
      rcases hs with (h | ⟨o, h⟩) | ⟨o, its, n, hk, hc, _⟩
      · exact .base (.tup h)
      · exact .fTuple h
      · exact .kTuple hk hc
  | .dict _, h, _ => by cases h
  | .none, h, n => absurd rfl n
theorem ev_isi {K : PySem.W.Frag} {Γ : G} {ta : TE} {d : D} {T : String} {b : Bool} (ha : EvR K ta Γ d) (nd : isDict d = false) (nn : d ≠ .none) (hk : kitB (tyD d) T = some b) : EvR K (tCB (rIsi K) (tCons ta (tCons (tC (.ty T)) tNil))) Γ (.bool b) := fun σ H E Q q =>
  ha σ H E _ fun v H1 e1 r1 => ⟨v, .ty T, .type (tyD d), .type T, b, rfl, .ty T, tyx_of (r1.dp nd) nn, kit_ty hk, q _ H1 e1 (.inl (.bl b))⟩

/-! ### min of a tuple of ints -/
def rMinT (K : PySem.W.Frag) : List V → Hp → VK → Prop := fun vs H Q => ∃ (a : Addr) (n : Int) (ns : List Int), vs = [V.ref a] ∧ SqT K H a ((n :: ns).map V.int) ∧ Q (.int (ns.foldl min n)) H
theorem alike_ints (ns : List Int) : PySem.W.AlikeAll (ns.map PyData.int) := by
  refine ⟨fun x hx y hy => ?_, fun x hx => ?_⟩
  · obtain ⟨a, _, rfl⟩ := List.mem_map.mp hx
    obtain ⟨b, _, rfl⟩ := List.mem_map.mp hy
    rfl
  · obtain ⟨a, _, rfl⟩ := List.mem_map.mp hx
    intro z
    cases z
theorem depth_ints : ∀ ns : List Int, PyData.depthAll (ns.map PyData.int) = 0
  | [] => rfl
  | n :: ns => by
    rw [List.map_cons, PyData.depthAll, depth_ints ns]
    rfl
theorem cr_minT {X : Cx} (hc : X.calm = true) (hu : X.A.units + 65 < cLine) : CallR X (.builtin "min") (rMinT X.K) := by
  intro pins s σ H vs us Q I r h
  obtain ⟨a, n, ns, rfl, hs, q⟩ := h
  obtain ⟨its, rv, ht, hz⟩ := I.tuple hs
  rw [Vals.ref1 r]
  obtain ⟨as, hr⟩ := Dp.readsAll I ((n :: ns).map PyData.int) _ its (DpAll.of_ints (K := X.K) (H := H) (n :: ns)) rv
  have hd := depth_ints (n :: ns)
  refine PySem.W.min_tuple_data (x := .int n) (xs := ns.map .int) (I.ok.hd hc) ht hr (alike_ints (n :: ns)) ?_ fun i v h' tk bs hv hrd hk => ?_
  · show X.A.units + 1 + PyData.depthAll ((n :: ns).map PyData.int) < cLine
    rw [hd]
    omega
  · rw [PySem.W.minD_ints] at hrd
    cases hrd with
    | int i t => exact ⟨.int _, H, I.kept hk, ⟨_, rfl⟩, q⟩
theorem ev_minT {K : PySem.W.Frag} {Γ : G} {ta : TE} {n : Int} {ns : List Int} (h : EvR K ta Γ (tI (n :: ns))) : EvR K (tCB (rMinT K) (tCons ta tNil)) Γ (.int (ns.foldl min n)) :=
  ev_cb (eas_cons h eas_nil) fun vs H r Q q => by
    obtain ⟨v, rfl, r1⟩ := rp1 r
    obtain ⟨a, ws, rfl, hs, hd⟩ := r1.tup
    rw [DpAll.ints hd] at hs
    exact ⟨a, n, ns, rfl, hs, q _ H (Ex.refl H) (.inl (.int _))⟩
/-- max, min of one list or tuple or of two ints: one rule for min -/
def rMinX (K : PySem.W.Frag) : List V → Hp → VK → Prop := fun vs H Q => rMin2' vs H Q ∨ rMinT K vs H Q
theorem cr_minX {X : Cx} (hc : X.calm = true) (hu : X.A.units + 65 < cLine) : CallR X (.builtin "min") (rMinX X.K) := (call_min2 hc).or (cr_minT hc hu)
theorem ev_minX2 {K : PySem.W.Frag} {Γ : G} {ta tb : TE} {i j : Int} (h : EvR K ta Γ (.int i)) (h2 : EvR K tb Γ (.int j)) : EvR K (tCB (rMinX K) (tCons ta (tCons tb tNil))) Γ (.int (if j < i then j else i)) :=
  ev_cb (eas_cons h (eas_cons h2 eas_nil)) fun vs H r Q q => by
    obtain ⟨v, w, rfl, r1, r2⟩ := rp2 r
    exact .inl ⟨i, j, by rw [r1.int, r2.int], q _ H (Ex.refl H) (.inl (.int _))⟩
theorem ev_minXT {K : PySem.W.Frag} {Γ : G} {ta : TE} {n : Int} {ns : List Int} (h : EvR K ta Γ (tI (n :: ns))) : EvR K (tCB (rMinX K) (tCons ta tNil)) Γ (.int (ns.foldl min n)) :=
  ev_cb (eas_cons h eas_nil) fun vs H r Q q => by
    obtain ⟨v, rfl, r1⟩ := rp1 r
    obtain ⟨a, ws, rfl, hs, hd⟩ := r1.tup
    rw [DpAll.ints hd] at hs
    exact .inr ⟨a, n, ns, rfl, hs, q _ H (Ex.refl H) (.inl (.int _))⟩
end KW

set_option Elab.async false
set_option linter.all false
set_option maxRecDepth 100000
set_option maxHeartbeats 4000000
/-! a sequence read backwards: xs[::-1] of a list or a tuple -/
namespace KW
open PySem PySem.Spec PyProof.Rows L2 Evl
section
variable {prog : Program} {w : World} {A : Around} {E : Value → Shared → Prop} {s : Shared}
theorem back_applied {sl : Addr} {n : Nat} {tk : Tok} {Q : Int × Int × Nat → Shared → Prop} (hs : s.heap.IsSliceOf sl .none .none (.int (-1) tk)) (h : Q ((n : Int) - 1, -1, n) s) :
    wpAny (model prog w) A (Builtin.Slice.sliceApplied (.ref sl) (pure (n : Int))) Q E s := by
  obtain ⟨os, hos, hcs, hds⟩ := id hs
  unfold Builtin.Slice.sliceApplied Builtin.Slice.sliceFields
  refine wpAny_bind (wpAny_bind (wpAny_field hos hds (x := .none) rfl (wpAny_bind (wpAny_field hos hds (x := .none) rfl (wpAny_bind (wpAny_field hos hds (x := .int (-1) tk) rfl (wpAny_pure ?_)))))))
  refine wpAny_bind (HT.slicePart_ (.int (-1) tk) ?_)
  show wpAny _ _ (if ((-1 : Int) == 0) = true then _ else _) _ _ s
  rw [if_neg (by decide)]
  refine wpAny_bind (HT.slicePart_ .none (wpAny_bind (HT.slicePart_ .none (wpAny_bind (wpAny_pure ?_)))))
  have e1 : Builtin.Slice.sliceAdjust none none (-1) (n : Int) = ((n : Int) - 1, -1) := by
    unfold Builtin.Slice.sliceAdjust
    rfl
  have e2 : Builtin.Slice.slicePlaces ((n : Int) - 1) (-1) (-1) = n := by
    unfold Builtin.Slice.slicePlaces
    have h1 : ¬ ((-1 : Int) > 0) := by omega
    simp only [h1, if_false]
    split
    · have h3 : (n : Int) - 1 - -1 - 1 = (n : Int) - 1 := by omega
      simp <;> omega
    · omega
  show wpAny _ _ (match Builtin.Slice.sliceAdjust none none (-1) (n : Int) with | (lo, hi) => pure (lo, (-1 : Int), Builtin.Slice.slicePlaces lo hi (-1))) _ _ s
  rw [e1]
  show wpAny _ _ (pure ((n : Int) - 1, (-1 : Int), Builtin.Slice.slicePlaces ((n : Int) - 1) (-1) (-1))) _ _ s
  rw [e2]
  exact wpAny_pure h
theorem back_pick (xs : Array Value) : ((List.range xs.size).filterMap fun (m : Nat) => xs[(((xs.size : Nat) : Int) - 1 + (m : Int) * -1).toNat]?).toArray = xs.toList.reverse.toArray := by
  congr 1
  have e : ∀ k, k ≤ xs.size → ((List.range k).filterMap fun (m : Nat) => xs[(((xs.size : Nat) : Int) - 1 + (m : Int) * -1).toNat]?) = (xs.toList.drop (xs.size - k)).reverse := by
    intro k
    induction k with
    | zero => intro _; simp
    | succ k ih =>
      intro hk
      rw [List.range_succ, List.filterMap_append, ih (by omega)]
      have hi : (((xs.size : Nat) : Int) - 1 + (k : Int) * -1).toNat = xs.size - (k + 1) := by omega
      have hlt : xs.size - (k + 1) < xs.size := by omega
      have hd : xs.toList.drop (xs.size - (k + 1)) = xs[xs.size - (k + 1)] :: xs.toList.drop (xs.size - k) := by
        rw [List.drop_eq_getElem_cons (by simpa using hlt)]
        have : xs.size - (k + 1) + 1 = xs.size - k := by omega
        rw [this]
        simp
      rw [hd, List.reverse_cons]
      congr 1
      simp only [List.filterMap_cons, List.filterMap_nil, hi]
      rw [Array.getElem?_eq_getElem hlt]
  rw [e xs.size (Nat.le_refl _), Nat.sub_self, List.drop_zero]
theorem back_tuple {t sl : Addr} {items : Array Value} {tk : Tok} {Q : Value → Shared → Prop} (ht : IsTup s.heap t items) (hs : s.heap.IsSliceOf sl .none .none (.int (-1) tk))
    (h : Q (.ref s.heap.objs.size) { s with heap := s.heap.push { cls := .type "tuple", data := .seq items.toList.reverse.toArray } }) (hsz : items.size ≤ sizeLine) : wpAny (model prog w) A (getItem (.ref t) (.ref sl)) Q E s := by
  have hfit : sizeOk (.seq items.toList.reverse.toArray) := by
    show items.toList.reverse.toArray.size ≤ sizeLine
    simpa using hsz
  have hT : s.TypeIs (.ref sl) "slice" := by
    obtain ⟨os, hos, hcs, _⟩ := id hs
    exact ⟨os, hos, hcs⟩
  unfold getItem
  try with_reducible refine wpAny_holding ?_
  first | refine wpAny_bind (wpAny_pure ?_) | skip
  refine wpAny_bind (wpAny_sequenceKey ht.typeIs (by decide) ?_)
  refine wpAny_bind (wpAny_callSpecial?_slot (name := Str.ofString "__getitem__") ht.typeIs slot_tuple_getitem (wpAny_call_entry slot_tuple_getitem ht.typeIs entry_tuple_getitem ?_ (args_tuple_getitem _ _)))
  show wpAny _ _ (Builtin.Tuple.tupleItemsOf (.ref t) >>= _) _ _ s
  refine wpAny_bind (tupleItemsOf_ ht (wpAny_bind (wpAny_typeOf hT ?_)))
  rw [if_pos (by decide)]
  refine wpAny_bind (back_applied (n := items.size) hs ?_)
  have hno : ¬ ((((items.size : Nat) : Int) - 1 == 0 && (-1 : Int) == 1 && items.size == items.size) = true) := by simp
  show wpAny _ _ (if (((items.size : Nat) : Int) - 1 == 0 && (-1 : Int) == 1 && items.size == items.size) = true then _ else _) _ _ s
  rw [if_neg hno, back_pick]
  first
    | exact wpAny_bind (m := Builtin.Tuple.tupleExact _) (wpAny_newObj_type (wpAny_pure ⟨_, rfl, wpAny_pure h⟩) hfit)
    | exact wpAny_bind (m := Builtin.Tuple.tupleExact _) (wpAny_newObj_type (wpAny_bind (wpAny_pure (wpAny_pure ⟨_, rfl, wpAny_pure h⟩))) hfit)
    | exact wpAny_bind (wpAny_bind (m := Builtin.Tuple.tupleExact _) (wpAny_newObj_type (wpAny_pure (wpAny_pure ⟨_, rfl, wpAny_pure h⟩)) hfit))
    | exact wpAny_bind (wpAny_bind (m := Builtin.Tuple.tupleExact _) (wpAny_newObj_type (wpAny_pure ⟨_, rfl, wpAny_pure h⟩) hfit))
end
section
variable {X : Cx}
def tRevX (K : PySem.W.Frag) (te : TE) : TE := fun σ H Q => te σ H fun x H1 => ∃ a xs, x = .ref a ∧ ((SqL K H1 a xs ∧ ∀ p, H1 p = none → Q (.ref p) (upd H1 p (.lst xs.reverse))) ∨ (SqT K H1 a xs ∧ ∀ p, H1 p = none → Q (.ref p) (upd H1 p (.tup xs.reverse))))
theorem pe_revX {e : Expr} {te : TE} {k : Nat} {p1 p2 p3 pos : Pos} (he : PE X e te) : PE X (.Subscript e (.Slice none none (some (.UnaryOp .USub (.Constant (.int 1) k p1) p2)) p3) pos) (tRevX X.K te) := by
  refine ⟨fun pins s σ H Q I h => Subscript_ (thn (he.run pins s σ H _ I h) fun v s1 ⟨x, H1, I1, r1, q1⟩ => ?_)⟩
  obtain ⟨a, xs, ex, q⟩ := q1
  subst ex
  cases r1
  have st : PE X (.UnaryOp .USub (.Constant (.int 1) k p1) p2) (tUn (rU fun i => .int (-i)) (tC (.int 1))) := pe_un un_neg pe_int
  refine wpAny_Slice (thn (po_none.run pins s1 σ H1 (fun o H2 => o = none ∧ H2 = H1) I1 ⟨rfl, rfl⟩) fun vl s2 ⟨l, H2, I2, pl, el, e2⟩ => ?_)
  subst el e2
  refine thn (po_none.run pins s2 σ H2 (fun o H3 => o = none ∧ H3 = H2) I2 ⟨rfl, rfl⟩) fun vu s3 ⟨u, H3, I3, pu, eu, e3⟩ => ?_
  subst eu e3
  refine thn ((po_some st).run pins s3 σ H3 (fun o H4 => o = some (-1) ∧ H4 = H3) I3 ⟨1, rfl, -1, rfl, rfl, rfl⟩) fun vs s4 ⟨o, H4, I4, ps, eo, e4⟩ => ?_
  subst eo e4
  cases pl
  cases pu
  cases ps with
  | int _ tk =>
  have I5 : Inv X pins σ H4 { s4 with heap := s4.heap.push { cls := .type "slice", data := .fields #[.none, .none, .int (-1) tk] } } := I4.kept (t' := s4.toks) fun b ob q => Heap.get?_push_of_some _ q
  rcases q with ⟨hx, q⟩ | ⟨hx, q⟩
  · obtain ⟨its, r, ht, hz⟩ := I5.list hx
    have hlen := r.length
    refine tail_any (ops := [.ref a, .ref s4.heap.objs.size]) ht.isList.typeIs (PySem.slot_list_getitem.lookup) ?_ (by with_unfolding_all rfl)
    refine wpAny_getItem_list_slice ht.isList (Heap.IsSliceOf.new _ .none .none (.int (-1) tk)) .none .none (.int (-1) tk) (by decide) ?_ (by rw [List.size_toArray]; omega)
    rw [PySem.W.krv_pick]
    exact ⟨.ref _, _, I5.lnew (its := its.reverse) (t' := s4.toks) (r.reverse) (by rw [List.length_reverse]; exact hz), rfl, q _ I5.fresh⟩
  · obtain ⟨its, r, ht, hz⟩ := I5.tuple hx
    have hlen := r.length
    refine tail_any (ops := [.ref a, .ref s4.heap.objs.size]) ht.typeIs (slot_tuple_getitem.lookup) ?_ (by with_unfolding_all rfl)
    refine back_tuple ht (Heap.IsSliceOf.new _ .none .none (.int (-1) tk)) ?_ (by rw [List.size_toArray]; omega)
    exact ⟨.ref _, _, I5.laid (t' := s4.toks) (o := .tup xs.reverse) (fun b ob q => Heap.get?_push_of_some _ q) (Nat.le_refl _) ⟨by rw [List.length_reverse]; exact hz, its.reverse, r.reverse, _, Heap.get?_push_size _ rfl, rfl, 0, by simp⟩, rfl, q _ I5.fresh⟩
end
section
variable {K : PySem.W.Frag} {Γ : G} {te : TE} {ds : List D}
theorem ef_revX (ha : EvR K te Γ (.list ds)) : EvF K (tRevX K te) Γ ds.reverse := fun σ H E Q q =>
  ha σ H E _ fun v H1 e1 r1 => by
    obtain ⟨a, vs, rfl, hs, hd⟩ := r1.lst
    exact ⟨a, vs, rfl, .inl ⟨hs, fun p hp => q p _ _ (fresh_back e1 hp) (e1.trans (Ex.new hp)) upd_same (DpAll.mono (Ex.new hp) (DpAll.reverse hd))⟩⟩
theorem ev_revX (ha : EvR K te Γ (.tuple ds)) : EvR K (tRevX K te) Γ (.tuple ds.reverse) := fun σ H E Q q =>
  ha σ H E _ fun v H1 e1 r1 => by
    obtain ⟨a, vs, rfl, hs, hd⟩ := r1.tup
    exact ⟨a, vs, rfl, .inr ⟨hs, fun p hp => q _ _ (e1.trans (Ex.new hp)) (.inl (.tup (st_of upd_same) (DpAll.mono (Ex.new hp) (DpAll.reverse hd))))⟩⟩
end
end KW

set_option Elab.async false
set_option linter.all false
set_option maxRecDepth 100000
set_option maxHeartbeats 8000000
/-! sorted(set(xs)) of a list of ints -/
namespace KW
open PySem PySem.Spec PyProof.Rows L2 Evl
section
variable {P : Program} {w : World} {A : Around} {E : Value → Shared → Prop} {s : Shared}
theorem set_of_list {l : Addr} {items : Array Value} (ns : List Int) {Q : Value → Shared → Prop} (hh : A.handled = none) (hl : s.heap.IsList l items) (hi : IntsAre items.toList ns) (hb : ns.length + 1 < scanBound)
    (h : ∀ (h' : Heap) (tk c : Nat), SetR w h' s.heap.objs.size (fun j => decide (j ∈ ns)) c → c ≤ ns.length → (∀ b o, s.heap.get? b = some o → h'.get? b = some o) → Q (.ref s.heap.objs.size) { s with heap := h', toks := tk }) :
    wpAny (model P w) A (call (.type "set") [.ref l]) Q E s := by
  have hn : items.size = ns.length := by simpa using IntsAre.length hi
  generalize hsz : s.heap.objs.size = p at h
  let ob : Obj := { cls := .type "set", dict := none, data := .set #[] 0 (.fresh 0 0 (!w.params.followText "set-order")) }
  obtain ⟨c, tl, hmro⟩ := F.called_set.mro
  have k1 := F.called_set.made
  have k2 := F.called_set.sub
  have k3 := F.called_set.notType
  have k4 := F.called_set.canCreate
  have k5 := F.typeCall_set_1 (.ref l)
  refine wpAny_call (codeAny_of_tree ?_)
  show wpAny _ _ (callAny (.type "set") _) _ _ _
  refine wpAny_pure ⟨Code.quiet_builtin _ (by decide +kernel), codeAny_builtin F.entry_type_call ?_⟩
  rw [Around.under_plain (weight_type_call_type "set" [.ref l] []) rfl]
  repeat (any_goals (first | assumption | wp_step))
  refine codeAny_mono (code_set_led1 (.ref l) (E := E) (Q₁ := fun v s₁ => v = .ref p ∧ s₁ = { s with heap := s.heap.push ob }) ⟨by rw [hsz], rfl⟩) fun r s₁ hr => ?_
  cases r with
  | error e => exact hr
  | ok fl =>
    cases fl with
    | ret v =>
      obtain ⟨rfl, rfl⟩ := hr
      have g0 : (s.heap.push ob).get? p = some ob := by rw [← hsz]; exact Heap.get?_push_size _ rfl
      have hT : Shared.TypeIs { s with heap := s.heap.push ob } (.ref p) "set" := ⟨_, g0, rfl⟩
      have k6 := F.called_set.init.lookup
      have k7 := F.called_set.init.bind (.ref p)
      repeat (any_goals (first | assumption | wp_step))
      refine codeAny_mono (codeAny_call_builtin (R := wants (fun r s₂ => r = .none ∧ ∃ h' tk c, s₂ = { s with heap := h', toks := tk } ∧ SetR w h' p (fun j => decide (j ∈ ns)) c ∧ c ≤ ns.length ∧ (∀ b o, s.heap.get? b = some o → h'.get? b = some o)) E)
        F.called_set.init.plain F.entry_set_init (check_set_init_1 hT ?_)) fun r₂ s₂ hr₂ => ?_
      · obtain ⟨⟨lc, ld, ldat, lsl⟩, g1, lcls, ln, lseq⟩ := hl
        simp only at lcls lseq
        subst lcls; subst lseq
        have g2 := Heap.get?_push_of_some ob g1
        have j1 := F.sub_list_set
        have j2 := F.sub_list_frozenset
        have j3 : (Value.type "list" == Value.type "dict") = false := by decide
        have g3 : (s.heap.push ob).IsList l items := ⟨_, g2, rfl, ln, rfl⟩
        have lp : l < p := by rw [← hsz]; exact Heap.lt_size g1
        unfold Builtin.«set.__init__» noKeywords Builtin.Frozenset.updateFrom
        generalize hI : pyIter = it
        wp_walk
        subst hI
        refine wpAny_pyIter_list g3 (wpAny_bind (wpAny_runValue ?_))
        have z1 : (s.heap.push ob).objs.size = p + 1 := by rw [Heap.size_push, hsz]
        have ne1 : l ≠ (s.heap.push ob).objs.size := by rw [z1]; exact Nat.ne_of_lt (Nat.lt_succ_of_lt lp)
        have out : p ∉ [(s.heap.push ob).objs.size, l] := by
          rw [z1]
          simp only [List.mem_cons, List.not_mem_nil, or_false, not_or]
          exact ⟨Nat.ne_of_lt (Nat.lt_succ_self _), Nat.ne_of_gt lp⟩
        have at' : ∀ (i : Nat) (v : Value), items[i]? = some v → ∃ k t, ns[i]? = some k ∧ v = .int k t := fun i v hv => by
          have hi' : i < ns.length := by rw [← hn]; exact (Array.getElem?_eq_some_iff.mp hv).1
          obtain ⟨t, e⟩ := IntsAre.int_at hi i v (by rw [Array.getElem?_toList]; exact hv)
          exact ⟨ns[i], t, List.getElem?_eq_getElem hi', by rw [e, List.getD_eq_getElem?_getD, List.getElem?_eq_getElem hi'] <;> rfl⟩
        have hh3 : A.in1.in1.in1.handled = none := by simp [hh]
        refine set_update_ints ((Walks.list hh3 _ l ne1 items).toS) p out ns hn hb at' (items.size - 0) 0 _ (by omega) (Nat.zero_le _) ⟨⟨_, Heap.get?_push_size _ rfl, rfl, rfl⟩, (g3.push _)⟩ ?start ?fin
        case start => exact ⟨0, Nat.le_refl 0, setR_new_at (Heap.get?_push_of_some _ g0)⟩
        case fin =>
          intro s' c' mv hc' hS
          obtain ⟨h', g', d', tk', os'⟩ := s'
          obtain rfl : g' = s.gens := mv.gens
          obtain rfl : d' = s.drawn := mv.drawn
          obtain rfl : os' = s.os := mv.os
          show wpAny _ _ _ _ _ _
          refine wpAny_pure ?_
          show wpAny _ _ (ret Value.none) _ _ _
          rw [hn] at hc'
          refine wpAny_pure ⟨rfl, h', tk', c', rfl, hS, hc', fun b o e => ?_⟩
          have b0 : b < p := by rw [← hsz]; exact Heap.lt_size e
          refine mv.heap b o ?_ (Heap.get?_push_of_some _ (Heap.get?_push_of_some _ e))
          rw [z1]
          simp only [List.mem_cons, List.not_mem_nil, or_false, not_or]
          exact ⟨Nat.ne_of_lt b0, Nat.ne_of_lt (Nat.lt_succ_of_lt b0)⟩
      · cases r₂ with
        | error e => exact hr₂
        | ok f2 =>
          cases f2 with
          | ret r =>
            obtain ⟨rfl, h', tk, c', rfl, hS, hc', hk⟩ := hr₂
            repeat (any_goals (first | assumption | wp_step))
            exact h _ _ _ hS hc' hk
          | _ => exact hr₂.elim
    | _ => exact hr.elim
end
section
variable {X : Cx}
def rSetOf (K : PySem.W.Frag) (w : World) : List V → Hp → VK → Prop := fun xs H Q => ∃ (a : Addr) (ns : List Int), xs = [V.ref a] ∧ SqL K H a (ns.map V.int) ∧ ns.length < 1000 ∧ ∀ p c, H p = none → c ≤ ns.length → Q (.ref p) (upd H p (SetO w p (fun j => decide (j ∈ ns)) c))
theorem cr_setOf (hc : X.calm = true) : CallR X (.type "set") (rSetOf X.K X.w) := by
  intro pins s σ H xs us Q I r h
  obtain ⟨a, ns, rfl, hs, hl, q⟩ := h
  obtain ⟨its, rv, ht, hz⟩ := I.list hs
  rw [Vals.ref1 r]
  refine set_of_list ns (I.ok.hd hc) ht.isList rv.ints (by unfold scanBound; omega) fun h' tk c hS hcn hk => ?_
  exact ⟨.ref _, upd H s.heap.objs.size (SetO X.w s.heap.objs.size (fun j => decide (j ∈ ns)) c), I.laid (t' := tk) hk (Nat.le_refl _) (setO_new hS), rfl, q _ _ I.fresh hcn⟩
end
theorem ef_sortedSet {K : PySem.W.Frag} {w : World} {Γ : G} {te : TE} {ns ms : List Int} (h : EvR K te Γ (lI ns)) (hl : ns.length < 64) (hp : ms.Pairwise (· < ·)) (hm : ∀ k, k ∈ ms ↔ k ∈ ns) :
    EvF K (tCB (rSortedSet w) (tCons (tCB (rSetOf K w) (tCons te tNil)) tNil)) Γ (ms.map .int) := fun σ H E Q q =>
  h σ H E _ fun v H1 e1 r1 => by
    obtain ⟨a, vs, rfl, hs, hd⟩ := r1.lst
    rw [DpAll.ints hd] at hs
    refine ⟨a, ns, rfl, hs, by omega, fun p c hp' hc => ⟨p, fun j => decide (j ∈ ns), c, rfl, upd_same, by omega, fun ms' p2 hp2 hm2 hl2 hn2 => ?_⟩⟩
    have e : ms' = ms := by
      have e1 : ∀ k, k ∈ ms' ↔ k ∈ ms := fun k => by rw [hm2, hm]; simp
      have : ∀ {a b : List Int}, a.Pairwise (· < ·) → b.Pairwise (· < ·) → (∀ k, k ∈ a ↔ k ∈ b) → a = b := by
        intro a
        induction a with
        | nil =>
          intro b _ _ hk
          cases b with
          | nil => rfl
          | cons y ys => exact absurd ((hk y).mpr List.mem_cons_self) (by simp)
        | cons x xs ih =>
          intro b ha hb hk
          cases b with
          | nil => exact absurd ((hk x).mp List.mem_cons_self) (by simp)
          | cons y ys =>
            rw [List.pairwise_cons] at ha hb
            have exy : x = y := by
              have h1 := (hk x).mp List.mem_cons_self
              have h2 := (hk y).mpr List.mem_cons_self
              rcases List.mem_cons.mp h1 with h1 | h1
              · exact h1
              · rcases List.mem_cons.mp h2 with h2 | h2
                · exact h2.symm
                · have := hb.1 x h1
                  have := ha.1 y h2
                  omega
            subst exy
            congr 1
            refine ih ha.2 hb.2 fun k => ?_
            have := hk k
            simp only [List.mem_cons] at this
            constructor
            · intro hk1
              rcases this.mp (.inr hk1) with h | h
              · have := ha.1 k hk1; omega
              · exact h
            · intro hk1
              rcases this.mpr (.inr hk1) with h | h
              · have := hb.1 k hk1; omega
              · exact h
      exact this hp2 hp e1
    subst e
    have ex : Ex H1 (upd (upd H1 p (SetO w p (fun j => decide (j ∈ ns)) c)) p2 (.lst (ms'.map V.int))) := (Ex.new hp').trans (Ex.new hn2)
    exact q p2 _ _ (fresh_back (e1.trans (Ex.new hp')) hn2) (e1.trans ex) upd_same (DpAll.of_ints _)
end KW

set_option Elab.async false
set_option linter.all false
set_option maxRecDepth 100000
set_option maxHeartbeats 8000000
/-! calls by name; what is walked, list or tuple; great products -/
namespace KW
open PySem PySem.Spec PyProof.Rows L2 Evl
/-- the module's name x holds a def that keeps sp -/
structure DefOk (P : Program) (w : World) (K : PySem.W.Frag) (mg : Str → Option Value) (base : Heap) (x : Str) (ps : List Str) (k : Nat) (sp : Sp) : Prop where
  ok : ∃ f fd, FnOk P w K mg base CX0 k f fd ps sp ∧ mg x = some (.ref f) ∧ PySem.W.keepIn K (.ref f) = true ∧ Binds K fd ps []
theorem DefOk.mk' {P : Program} {w : World} {K : PySem.W.Frag} {mg : Str → Option Value} {base : Heap} {x : Str} {ps : List Str} {k : Nat} {sp : Sp} {f : Addr} {fd : FuncData} {q : Str} {st : Stmt} (F : Fun K x q st f fd) (h : FnOk P w K mg base CX0 k f fd ps sp) (g : mg x = some (.ref f)) (b : Binds K fd ps []) : DefOk P w K mg base x ps k sp :=
  ⟨f, fd, h, g, F.kp, b⟩
theorem pe_callD {X : Cx} {x : Str} {ps : List Str} {k : Nat} {sp : Sp} {e : Expr} {es : List Expr} {t : TA} {p pos : Pos} (h : DefOk X.prog X.w X.K X.mg X.base x ps k sp) (hr : Room k X.A) (hg : Gl X x) (ha : PA X (e :: es) t)
    (h1 : (x == ("__debug__" : Str)) = false := by decide) (h2 : starEach (e :: es) X.env = (false, eval e X.env) :: starEach es X.env := by rfl) (h3 : (backTo pos (starEach es X.env)).any (·.1) = false := by rfl) : PE X (.Call (.Name x p) (e :: es) [] pos) (tCall sp [] E0 t) := by
  obtain ⟨f, fd, F, g, kp, b⟩ := h.ok
  exact pe_call F hr hg g kp b .nil pass0 ha h1 h2 h3
/-- list or tuple, walked -/
def iSeq (K : PySem.W.Frag) (tl : TE) : TI := fun σ H R => tl σ H fun x H1 => ∃ a, x = .ref a ∧ (((∃ xs, SqL K H1 a xs) ∧ R (Itl K a) H1) ∨ ((∃ xs, SqT K H1 a xs) ∧ R (Itt K a) H1))
theorem pi_seq {X : Cx} {tg l : Expr} {tl : TE} (hl : PE X l tl) : PI X tg l (iSeq X.K tl) := by
  refine ⟨fun pins s σ H R I h => thn (hl.run pins s σ H _ I h) fun v s1 ⟨x, H1, I1, r1, a, ex, q⟩ => ?_⟩
  subst ex
  cases r1
  have fp : ∀ b ∈ [s1.heap.objs.size], FpOk X pins H1 b := fun b hb => by
    rw [List.mem_singleton.mp hb]
    exact I1.fpOk (Nat.le_refl _) (I1.hok.fresh (Nat.le_refl _))
  rcases q with ⟨⟨xs, hq⟩, q⟩ | ⟨⟨xs, hq⟩, q⟩
  · obtain ⟨its, rv, p, _⟩ := I1.list hq
    exact wpAny_pyIter_list p.isList ⟨_, _, _, _, H1, rfl, I1.kept (t' := s1.toks) fun b o e => Heap.get?_push_of_some _ e, turn_list a _, ⟨_, Heap.get?_push_size _ rfl, rfl, rfl⟩, fp, q⟩
  · obtain ⟨its, rv, p, _⟩ := I1.tuple hq
    exact wpAny_pyIter_tuple (show s1.heap.IsTuple a its.toArray from p) ⟨_, _, _, _, H1, rfl, I1.kept (t' := s1.toks) fun b o e => Heap.get?_push_of_some _ e, turn_tuple a _, ⟨_, Heap.get?_push_size _ rfl, rfl, rfl⟩, fp, q⟩
section
variable {K : PySem.W.Frag} {Γ : G} {tl te : TE} {ds : List D} {S : SS} {i : Nat}
theorem it_seqT (h : EvR K tl Γ (.tuple ds)) : EvIt K (iSeq K tl) Γ ds := fun σ H E R q =>
  h σ H E _ fun v H1 e1 r => by
    obtain ⟨a, vs, rfl, hs, hd⟩ := r.tup
    exact ⟨a, rfl, .inr ⟨⟨vs, hs⟩, q _ H1 e1 (walks_tup hs hd)⟩⟩
theorem it_seqL (h : EvR K tl Γ (.list ds)) : EvIt K (iSeq K tl) Γ ds := fun σ H E R q =>
  h σ H E _ fun v H1 e1 r => by
    obtain ⟨a, vs, rfl, hs, hd⟩ := r.lst
    exact ⟨a, rfl, .inl ⟨⟨vs, hs⟩, q _ H1 e1 (walks_lst hs hd)⟩⟩
theorem itm_seqT (h : EvR K tl Γ (.tuple ds)) (n : noLs ds = true) : EvItM K (iSeq K tl) Γ ds := fun σ H E R q =>
  h σ H E _ fun v H1 e1 r => by
    obtain ⟨a, vs, rfl, hs, hd⟩ := r.tup
    exact ⟨a, rfl, .inr ⟨⟨vs, hs⟩, q _ H1 e1 fun D xs hD => walks_tup (del_sqT (e1 _ _ hD) _ _ hs) (DpAll.mapT (del_sqT (e1 _ _ hD)) _ _ n hd)⟩⟩
theorem its_seqT (h : EvR K te (gm S) (.tuple ds)) (n : noLs ds = true) : EvItS K (iSeq K te) S ds := fun Hm H σ A sa R q =>
  h σ H sa.env _ fun v H1 e1 r => by
    obtain ⟨a, vs, rfl, hs, hd⟩ := r.tup
    exact ⟨a, rfl, .inr ⟨⟨vs, hs⟩, q _ _ H1 (sa.strip_of e1) (sa.grow e1) (walks_tup (sa.sqT e1 _ _ hs) (DpAll.mapT (sa.sqT e1) _ _ n hd))⟩⟩
theorem its_seqV (hs : S[i]? = some (.im (.list ds))) : EvItS K (iSeq K (tVar i)) S ds := fun Hm H σ A sa R q => by
  obtain ⟨v, h1, h2⟩ := sa.own i _ hs (by intro z; cases z)
  obtain ⟨a, vs, rfl, hl, hd⟩ := h2.1.lst
  exact ⟨_, h1, a, rfl, .inl ⟨⟨vs, ex_l sa.ex hl⟩, q _ Hm H (Ex.refl _) sa (walks_lst hl hd)⟩⟩
theorem its_seqF (h : EvF K te (gm S) ds) (n : noLs ds = true) : EvItS K (iSeq K te) S ds := fun Hm H σ A sa R q =>
  h σ H sa.env _ fun p vs H1 np e1 hp hd => by
    have hl : strip H1 A p = some (.lst vs) := by rw [strip_out (fresh_own sa np)]; exact hp
    exact ⟨p, rfl, .inl ⟨⟨vs, sq_of hp⟩, q _ _ H1 (sa.strip_of e1) (sa.grow e1) (walks_lst (sq_of hl) (DpAll.mapT (sa.sqT e1) _ _ n hd))⟩⟩
end
/-- the built-in names that the module does not bind -/
structure Bl (mg : Str → Option Value) : Prop where
  abs : mg "abs" = none
  all : mg "all" = none
  bool : mg "bool" = none
  dict : mg "dict" = none
  int : mg "int" = none
  isinstance : mg "isinstance" = none
  len : mg "len" = none
  list : mg "list" = none
  max : mg "max" = none
  min : mg "min" = none
  range : mg "range" = none
  set : mg "set" = none
  sorted : mg "sorted" = none
  sum : mg "sum" = none
  tuple : mg "tuple" = none
/-! ranges as lists and tuples -/
section
variable {K : PySem.W.Frag} {Γ : G} {ta tb : TE} {i j : Int}
theorem rgV_map (a b : Int) : rgV a b = (rgI a (b - a).toNat).map V.int := by
  unfold rgV rgI
  rw [List.map_map]
  rfl
theorem ef_listRg1 (h : EvR K ta Γ (.int j)) (hj : 0 ≤ j ∧ j ≤ 100000) : EvF K (tLstRg (tRg1 ta)) Γ ((rgI 0 j.toNat).map .int) := fun σ H E Q q =>
  h σ H E _ fun v H1 e1 r1 => ⟨j, r1.int, ⟨by omega, by omega, by omega, by omega, by omega⟩, fun p hp => by
    rw [rgV_map, Int.sub_zero]
    exact q p _ _ (fresh_back e1 hp) (e1.trans (Ex.new hp)) upd_same (DpAll.of_ints _)⟩
theorem ev_tupRg1 (h : EvR K ta Γ (.int j)) (hj : 0 ≤ j ∧ j ≤ 100000) : EvR K (tTupRg (tRg1 ta)) Γ (tI (rgI 0 j.toNat)) := fun σ H E Q q =>
  h σ H E _ fun v H1 e1 r1 => ⟨j, r1.int, ⟨by omega, by omega, by omega, by omega, by omega⟩, fun p hp => by
    rw [rgV_map, Int.sub_zero]
    exact q _ _ (e1.trans (Ex.new hp)) (.inl (.tup (st_of upd_same) (DpAll.of_ints _)))⟩
theorem ev_tupRg2 (h : EvR K ta Γ (.int i)) (h2 : EvR K tb Γ (.int j)) (hj : 0 ≤ i ∧ i ≤ 100000 ∧ 0 ≤ j ∧ j ≤ 100000) : EvR K (tTupRg (tRg2 ta tb)) Γ (tI (rgI i (j - i).toNat)) := fun σ H E Q q =>
  h σ H E _ fun v H1 e1 r1 => h2 σ H1 (E.mono e1) _ fun v2 H2 e2 r2 => ⟨i, j, r1.int, r2.int, ⟨by omega, by omega, by omega, by omega, by omega⟩, fun p hp => by
    rw [rgV_map]
    exact q _ _ ((e1.trans e2).trans (Ex.new hp)) (.inl (.tup (st_of upd_same) (DpAll.of_ints _)))⟩
end
end KW

set_option Elab.async false
set_option linter.all false
set_option maxRecDepth 100000
set_option maxHeartbeats 8000000
/-! the value lemmas that the small tactic takes -/
namespace KW
open PySem PySem.Spec PyProof.Rows L2 Evl
section
variable {K : PySem.W.Frag} {Γ : G} {ta tb te : TE} {d e f : D} {ds es : List D} {i j k : Int} {a b c : Bool}
theorem rv_add : RvR K (rAddX K) (.int i) (.int j) (.int (i + j)) := RvR.l rv_addI
theorem rv_addT (hl : ds.length + es.length ≤ 100000) : RvR K (rAddX K) (.tuple ds) (.tuple es) (.tuple (ds ++ es)) := RvR.rr (RvR.l (rv_catT hl))
theorem rv_I0 {g : Int → Int → V} (hf : flatVD (g i j) = true) : RvR K (rI0 g) (.int i) (.int j) (VD (g i j)) := fun x y H r1 r2 Q q => ⟨i, j, r1.int, r2.int, q _ H (Ex.refl H) (rp_VD hf)⟩
theorem rv_I {C : Int → Int → Prop} {g : Int → Int → V} (hf : flatVD (g i j) = true) (hc : C i j) : RvR K (rI C g) (.int i) (.int j) (VD (g i j)) := fun x y H r1 r2 Q q => ⟨i, j, r1.int, r2.int, hc, q _ H (Ex.refl H) (rp_VD hf)⟩
theorem rv_sub : RvR K (rI0 fun i j => .int (i - j)) (.int i) (.int j) (.int (i - j)) := rv_I0 rfl
theorem rv_lt : RvR K (rI0 fun i j => .bl (decide (i < j))) (.int i) (.int j) (.bool (decide (i < j))) := rv_I0 rfl
theorem rv_le : RvR K (rI0 fun i j => .bl (decide (i ≤ j))) (.int i) (.int j) (.bool (decide (i ≤ j))) := rv_I0 rfl
theorem rv_gt : RvR K (rI0 fun i j => .bl (decide (j < i))) (.int i) (.int j) (.bool (decide (j < i))) := rv_I0 rfl
theorem rv_ge : RvR K (rI0 fun i j => .bl (decide (j ≤ i))) (.int i) (.int j) (.bool (decide (j ≤ i))) := rv_I0 rfl
theorem rv_mul (hc : CMul i j) : RvR K (rI CMul fun i j => .int (i * j)) (.int i) (.int j) (.int (i * j)) := rv_I rfl hc
theorem rv_mod (hc : 0 < j) : RvR K (rI (fun _ j => 0 < j) fun i j => .int (i % j)) (.int i) (.int j) (.int (i % j)) := rv_I rfl hc
theorem rv_fdiv (hc : CDiv i j) : RvR K (rI CDiv fun i j => .int (i / j)) (.int i) (.int j) (.int (i / j)) := rv_I rfl hc
theorem rv_pow (hc : CPow i j) : RvR K (rI CPow fun i j => .int (i ^ j.toNat)) (.int i) (.int j) (.int (i ^ j.toNat)) := rv_I rfl hc
theorem rv_ixT (h : atI ds i = some d) : RvR K (rIxX K) (.tuple ds) (.int i) d := fun x y H r1 r2 Q q => by
  obtain ⟨a, vs, rfl, hs, hd⟩ := r1.tup
  obtain ⟨v, h1, h2⟩ := DpAll.atI hd h
  exact .inr ⟨a, vs, i, v, rfl, r2.int, hs, h1, q v H (Ex.refl H) (.inl h2)⟩
theorem rv_ixL (h : atI ds i = some d) : RvR K (rIxX K) (.list ds) (.int i) d := fun x y H r1 r2 Q q => by
  obtain ⟨a, vs, rfl, hs, hd⟩ := r1.lst
  obtain ⟨v, h1, h2⟩ := DpAll.atI hd h
  exact .inl ⟨a, vs, i, v, rfl, r2.int, hs, h1, q v H (Ex.refl H) (.inl h2)⟩
theorem atI_int {α : Type} {xs : List α} (z : α) (h0 : 0 ≤ k) (h1 : k < (xs.length : Int)) : atI xs k = some (xs.getD k.toNat z) := by
  have e : k = (k.toNat : Int) := by omega
  have hlt : k.toNat < xs.length := by omega
  have : atI xs (k.toNat : Int) = some (xs.getD k.toNat z) := atI_nat (by rw [List.getElem?_eq_getElem hlt, List.getD_eq_getElem?_getD, List.getElem?_eq_getElem hlt]; rfl)
  rw [← e] at this
  exact this
theorem atI_map {α β : Type} {f : α → β} {xs : List α} {x : α} (h : atI xs k = some x) : atI (xs.map f) k = some (f x) := by
  unfold atI at h ⊢
  rw [List.length_map]
  cases q : ixN xs.length k with
  | none => rw [q] at h; cases h
  | some j =>
    rw [q] at h
    have h : xs[j]? = some x := h
    show (xs.map f)[j]? = some (f x)
    rw [List.getElem?_map, h]
    rfl
theorem atI_back {α : Type} {xs : List α} (z : α) (h : xs ≠ []) : atI xs (-1) = some (xs.getLastD z) := by
  have e := List.dropLast_concat_getLast h
  have : atI (xs.dropLast ++ [xs.getLast h]) (-1) = some (xs.getLast h) := atI_last _ _
  rw [e] at this
  rw [this, List.getLastD_eq_getLast?, List.getLast?_eq_some_getLast h]
  rfl
theorem rv_ixTI {ns : List Int} (h0 : 0 ≤ k) (h1 : k < (ns.length : Int)) : RvR K (rIxX K) (tI ns) (.int k) (.int (ns.getD k.toNat 0)) := rv_ixT (atI_map (atI_int 0 h0 h1))
theorem rv_ixLI {ns : List Int} (h0 : 0 ≤ k) (h1 : k < (ns.length : Int)) : RvR K (rIxX K) (lI ns) (.int k) (.int (ns.getD k.toNat 0)) := rv_ixL (atI_map (atI_int 0 h0 h1))
theorem rv_isB : RvR K rIsB (.bool a) (.bool b) (.bool (decide (a = b))) := fun x y H r1 r2 Q q => ⟨a, b, r1.bool, r2.bool, q _ H (Ex.refl H) (.inl (.bl _))⟩
theorem rv_notB : RvR K rNotB (.bool a) (.bool b) (.bool (!decide (a = b))) := fun x y H r1 r2 Q q => ⟨a, b, r1.bool, r2.bool, q _ H (Ex.refl H) (.inl (.bl _))⟩
/-! equality -/
theorem shaped_int : SeqAt.shaped (.int i) = true := rfl
theorem lay_ints : ∀ ns : List Int, PyData.canLayAll0 (ns.map PyData.int) = true
  | [] => rfl
  | n :: ns => by
    rw [List.map_cons, PyData.canLayAll0, lay_ints ns]
    rfl
theorem shaped_tI (ns : List Int) : SeqAt.shaped (tI ns) = true := by
  unfold SeqAt.shaped
  have h1 : PyData.canLay0 (tI ns) = true := lay_ints ns
  have h2 : PyData.depth (tI ns) ≤ 64 := by
    unfold PyData.depth
    rw [depth_ints]
    decide
  rw [h1, decide_eq_true h2]
  rfl
theorem eqvAll_ints : ∀ xs ys : List Int, PyData.eqvAll (xs.map .int) (ys.map .int) = decide (xs = ys)
  | [], [] => rfl
  | [], _ :: _ => rfl
  | _ :: _, [] => rfl
  | x :: xs, y :: ys => by
    rw [List.map_cons, List.map_cons, PyData.eqvAll, eqvAll_ints xs ys]
    show ((x == y) && decide (xs = ys)) = decide (x :: xs = y :: ys)
    by_cases h : x = y
    · subst h; simp
    · have : ¬ (x :: xs = y :: ys) := fun z => h (List.cons.inj z).1
      rw [decide_eq_false this, beq_eq_false_iff_ne.mpr h]
      rfl
theorem eqv_tI (xs ys : List Int) : PyData.eqv (tI xs) (tI ys) = decide (xs = ys) := eqvAll_ints xs ys
theorem eqv_lI (xs ys : List Int) : PyData.eqv (lI xs) (lI ys) = decide (xs = ys) := eqvAll_ints xs ys
theorem eqv_int : PyData.eqv (.int i) (.int j) = decide (i = j) := by
  show (i == j) = _
  by_cases h : i = j
  · subst h; simp
  · rw [decide_eq_false h, beq_eq_false_iff_ne.mpr h]
theorem rv_eqI : RvR K (rEqD K) (.int i) (.int j) (.bool (decide (i = j))) := fun x y H r1 r2 Q q => ⟨_, _, r1.dp rfl, r2.dp rfl, rfl, rfl, by rw [eqv_int]; exact q _ H (Ex.refl H) (.inl (.bl _))⟩
theorem rv_neI : RvR K (rNeD K) (.int i) (.int j) (.bool (!decide (i = j))) := fun x y H r1 r2 Q q => ⟨_, _, r1.dp rfl, r2.dp rfl, rfl, rfl, by rw [eqv_int]; exact q _ H (Ex.refl H) (.inl (.bl _))⟩
theorem rv_eqB : RvR K (rEqD K) (.bool a) (.bool b) (.bool (a == b)) := fun x y H r1 r2 Q q => ⟨_, _, r1.dp rfl, r2.dp rfl, rfl, rfl, q _ H (Ex.refl H) (.inl (.bl _))⟩
theorem rv_neB : RvR K (rNeD K) (.bool a) (.bool b) (.bool (!(a == b))) := fun x y H r1 r2 Q q => ⟨_, _, r1.dp rfl, r2.dp rfl, rfl, rfl, q _ H (Ex.refl H) (.inl (.bl _))⟩
theorem rv_eqS {x y : Str} (hx : SeqAt.shaped (.str x) = true) (hy : SeqAt.shaped (.str y) = true) : RvR K (rEqD K) (.str x) (.str y) (.bool (x == y)) := fun _ _ H r1 r2 Q q => ⟨_, _, r1.dp rfl, r2.dp rfl, hx, hy, q _ H (Ex.refl H) (.inl (.bl _))⟩
theorem rv_neS {x y : Str} (hx : SeqAt.shaped (.str x) = true) (hy : SeqAt.shaped (.str y) = true) : RvR K (rNeD K) (.str x) (.str y) (.bool (!(x == y))) := fun _ _ H r1 r2 Q q => ⟨_, _, r1.dp rfl, r2.dp rfl, hx, hy, q _ H (Ex.refl H) (.inl (.bl _))⟩
theorem rv_eqT {xs ys : List Int} : RvR K (rEqD K) (tI xs) (tI ys) (.bool (decide (xs = ys))) := fun _ _ H r1 r2 Q q => ⟨_, _, r1.dp rfl, r2.dp rfl, shaped_tI xs, shaped_tI ys, by rw [eqv_tI]; exact q _ H (Ex.refl H) (.inl (.bl _))⟩
theorem rv_neT {xs ys : List Int} : RvR K (rNeD K) (tI xs) (tI ys) (.bool (!decide (xs = ys))) := fun _ _ H r1 r2 Q q => ⟨_, _, r1.dp rfl, r2.dp rfl, shaped_tI xs, shaped_tI ys, by rw [eqv_tI]; exact q _ H (Ex.refl H) (.inl (.bl _))⟩
theorem rv_eqLI {xs ys : List Int} : RvR K (rEqD K) (lI xs) (lI ys) (.bool (decide (xs = ys))) := fun _ _ H r1 r2 Q q => ⟨_, _, r1.dp rfl, r2.dp rfl, shaped_tI xs, shaped_tI ys, by rw [eqv_lI]; exact q _ H (Ex.refl H) (.inl (.bl _))⟩
theorem rv_neLI {xs ys : List Int} : RvR K (rNeD K) (lI xs) (lI ys) (.bool (!decide (xs = ys))) := fun _ _ H r1 r2 Q q => ⟨_, _, r1.dp rfl, r2.dp rfl, shaped_tI xs, shaped_tI ys, by rw [eqv_lI]; exact q _ H (Ex.refl H) (.inl (.bl _))⟩
theorem rv_eqG (nd : isDict d = false) (ne : isDict e = false) (sd : SeqAt.shaped d = true) (se : SeqAt.shaped e = true) : RvR K (rEqD K) d e (.bool (PyData.eqv d e)) := fun _ _ H r1 r2 Q q => ⟨_, _, r1.dp nd, r2.dp ne, sd, se, q _ H (Ex.refl H) (.inl (.bl _))⟩
theorem rv_neG (nd : isDict d = false) (ne : isDict e = false) (sd : SeqAt.shaped d = true) (se : SeqAt.shaped e = true) : RvR K (rNeD K) d e (.bool (!PyData.eqv d e)) := fun _ _ H r1 r2 Q q => ⟨_, _, r1.dp nd, r2.dp ne, sd, se, q _ H (Ex.refl H) (.inl (.bl _))⟩
theorem any_eqv_ints (k : Int) (ns : List Int) : ((ns.map PyData.int).any fun z => PyData.eqv z (.int k)) = decide (k ∈ ns) := by
  induction ns with
  | nil => simp
  | cons n ns ih =>
    rw [List.map_cons, List.any_cons, ih, eqv_int]
    by_cases h : n = k
    · subst h; simp
    · have h' : ¬ k = n := fun z => h z.symm
      simp [h, h', List.mem_cons]
theorem rv_inLI {ns : List Int} : RvR K (rInA K false) (.int k) (lI ns) (.bool (decide (k ∈ ns))) := fun _ _ H r1 r2 Q q => ⟨_, _, r1.dp rfl, .inl (r2.dp rfl), rfl, shaped_tI ns, by rw [any_eqv_ints]; exact q _ H (Ex.refl H) (.inl (.bl _))⟩
theorem rv_inTI {ns : List Int} : RvR K (rInA K false) (.int k) (tI ns) (.bool (decide (k ∈ ns))) := fun _ _ H r1 r2 Q q => ⟨_, _, r1.dp rfl, .inr (r2.dp rfl), rfl, shaped_tI ns, by rw [any_eqv_ints]; exact q _ H (Ex.refl H) (.inl (.bl _))⟩
theorem rv_niLI {ns : List Int} : RvR K (rInA K true) (.int k) (lI ns) (.bool (!decide (k ∈ ns))) := fun _ _ H r1 r2 Q q => ⟨_, _, r1.dp rfl, .inl (r2.dp rfl), rfl, shaped_tI ns, by rw [any_eqv_ints]; exact q _ H (Ex.refl H) (.inl (.bl _))⟩
theorem rv_niTI {ns : List Int} : RvR K (rInA K true) (.int k) (tI ns) (.bool (!decide (k ∈ ns))) := fun _ _ H r1 r2 Q q => ⟨_, _, r1.dp rfl, .inr (r2.dp rfl), rfl, shaped_tI ns, by rw [any_eqv_ints]; exact q _ H (Ex.refl H) (.inl (.bl _))⟩
theorem rv_inG (c : ds = es) (nd : isDict d = false) (sd : SeqAt.shaped d = true) (se : SeqAt.shaped (.list ds) = true) : RvR K (rInA K false) d (.tuple ds) (.bool (ds.any fun z => PyData.eqv z d)) := fun _ _ H r1 r2 Q q => ⟨_, _, r1.dp nd, .inr (r2.dp rfl), sd, se, q _ H (Ex.refl H) (.inl (.bl _))⟩
theorem rv_niG (nd : isDict d = false) (sd : SeqAt.shaped d = true) (se : SeqAt.shaped (.list ds) = true) : RvR K (rInA K true) d (.tuple ds) (.bool (!ds.any fun z => PyData.eqv z d)) := fun _ _ H r1 r2 Q q => ⟨_, _, r1.dp nd, .inr (r2.dp rfl), sd, se, q _ H (Ex.refl H) (.inl (.bl _))⟩
theorem lay_tIs : ∀ xss : List (List Int), PyData.canLayAll0 (xss.map tI) = true
  | [] => rfl
  | xs :: xss => by
    rw [List.map_cons, PyData.canLayAll0, lay_tIs xss]
    show (PyData.canLayAll0 (xs.map .int) && true) = true
    rw [lay_ints]
    rfl
theorem depth_tIs : ∀ xss : List (List Int), PyData.depthAll (xss.map tI) ≤ 1
  | [] => Nat.zero_le _
  | xs :: xss => by
    rw [List.map_cons, PyData.depthAll]
    have := depth_tIs xss
    have h : PyData.depth (tI xs) = 1 := by unfold PyData.depth; rw [depth_ints]
    omega
theorem shaped_tT (xss : List (List Int)) : SeqAt.shaped (.list (xss.map tI)) = true := by
  unfold SeqAt.shaped
  have h1 : PyData.canLay0 (.list (xss.map tI)) = true := lay_tIs xss
  have h2 : PyData.depth (.list (xss.map tI)) ≤ 64 := by
    unfold PyData.depth
    have := depth_tIs xss
    omega
  rw [h1, decide_eq_true h2]
  rfl
theorem any_eqv_tIs (ys : List Int) (xss : List (List Int)) : ((xss.map tI).any fun z => PyData.eqv z (tI ys)) = decide (ys ∈ xss) := by
  induction xss with
  | nil => simp
  | cons xs xss ih =>
    rw [List.map_cons, List.any_cons, ih, eqv_tI]
    by_cases h : xs = ys
    · subst h; simp
    · have h' : ¬ ys = xs := fun z => h z.symm
      simp [h, h', List.mem_cons]
theorem rv_niTT {xss : List (List Int)} {ys : List Int} : RvR K (rInA K true) (tI ys) (.tuple (xss.map tI)) (.bool (!decide (ys ∈ xss))) := fun _ _ H r1 r2 Q q => ⟨_, _, r1.dp rfl, .inr (r2.dp rfl), shaped_tI ys, shaped_tT xss, by rw [any_eqv_tIs]; exact q _ H (Ex.refl H) (.inl (.bl _))⟩
theorem rv_inTT {xss : List (List Int)} {ys : List Int} : RvR K (rInA K false) (tI ys) (.tuple (xss.map tI)) (.bool (decide (ys ∈ xss))) := fun _ _ H r1 r2 Q q => ⟨_, _, r1.dp rfl, .inr (r2.dp rfl), shaped_tI ys, shaped_tT xss, by rw [any_eqv_tIs]; exact q _ H (Ex.refl H) (.inl (.bl _))⟩
/-! calls of built-ins, by values -/
def RcR (K : PySem.W.Frag) (r : List V → Hp → VK → Prop) (ds : List D) (d : D) : Prop := ∀ vs H, RpAll K H vs ds → ∀ Q : VK, (∀ v H', Ex H H' → Rp K H' v d → Q v H') → r vs H Q
theorem ev_cbR {r : List V → Hp → VK → Prop} {t : TA} (h : EvAs K t Γ ds) (hr : RcR K r ds d) : EvR K (tCB r t) Γ d := ev_cb h hr
theorem rc_abs : RcR K rAbs [.int i] (.int (if i < 0 then -i else i)) := fun vs H r Q q => by
  obtain ⟨v, rfl, r1⟩ := rp1 r
  exact ⟨i, by rw [r1.int], q _ H (Ex.refl H) (.inl (.int _))⟩
theorem rc_max : RcR K rMax2' [.int i, .int j] (.int (if j > i then j else i)) := fun vs H r Q q => by
  obtain ⟨v, w, rfl, r1, r2⟩ := rp2 r
  exact ⟨i, j, by rw [r1.int, r2.int], q _ H (Ex.refl H) (.inl (.int _))⟩
theorem rc_min : RcR K (rMinX K) [.int i, .int j] (.int (if j < i then j else i)) := fun vs H r Q q => by
  obtain ⟨v, w, rfl, r1, r2⟩ := rp2 r
  exact .inl ⟨i, j, by rw [r1.int, r2.int], q _ H (Ex.refl H) (.inl (.int _))⟩
theorem rc_minT {n : Int} {ns : List Int} : RcR K (rMinX K) [tI (n :: ns)] (.int (ns.foldl min n)) := fun vs H r Q q => by
  obtain ⟨v, rfl, r1⟩ := rp1 r
  obtain ⟨a, ws, rfl, hs, hd⟩ := r1.tup
  rw [DpAll.ints hd] at hs
  exact .inr ⟨a, n, ns, rfl, hs, q _ H (Ex.refl H) (.inl (.int _))⟩
theorem rc_intI : RcR K rInt1 [.int i] (.int i) := fun vs H r Q q => by
  obtain ⟨v, rfl, r1⟩ := rp1 r
  exact .inl ⟨i, by rw [r1.int], q _ H (Ex.refl H) (.inl (.int _))⟩
theorem rc_intB : RcR K rInt1 [.bool a] (.int (if a then 1 else 0)) := fun vs H r Q q => by
  obtain ⟨v, rfl, r1⟩ := rp1 r
  exact .inr ⟨a, by rw [r1.bool], q _ H (Ex.refl H) (.inl (.int _))⟩
theorem rc_lenT : RcR K (rLenS' K) [.tuple ds] (.int (ds.length : Int)) := fun vs H r Q q => by
  obtain ⟨v, rfl, r1⟩ := rp1 r
  obtain ⟨a, ws, rfl, hs, hd⟩ := r1.tup
  exact ⟨a, ws, rfl, .inr hs, q _ H (Ex.refl H) (.inl (by rw [DpAll.length hd]; exact .int _))⟩
theorem rc_lenL : RcR K (rLenS' K) [.list ds] (.int (ds.length : Int)) := fun vs H r Q q => by
  obtain ⟨v, rfl, r1⟩ := rp1 r
  obtain ⟨a, ws, rfl, hs, hd⟩ := r1.lst
  exact ⟨a, ws, rfl, .inl hs, q _ H (Ex.refl H) (.inl (by rw [DpAll.length hd]; exact .int _))⟩
theorem rc_lenTI {ns : List Int} : RcR K (rLenS' K) [tI ns] (.int (ns.length : Int)) := by
  have := rc_lenT (K := K) (ds := ns.map .int)
  rw [List.length_map] at this
  exact this
theorem rc_lenLI {ns : List Int} : RcR K (rLenS' K) [lI ns] (.int (ns.length : Int)) := by
  have := rc_lenL (K := K) (ds := ns.map .int)
  rw [List.length_map] at this
  exact this
theorem rc_tupL : RcR K (rTupOf K) [.list ds] (.tuple ds) := fun vs H r Q q => by
  obtain ⟨v, rfl, r1⟩ := rp1 r
  obtain ⟨a, ws, rfl, hs, hd⟩ := r1.lst
  exact ⟨a, ws, rfl, .inl ⟨hs, fun l hl => q _ _ (Ex.new hl) (.inl (.tup (st_of upd_same) (DpAll.mono (Ex.new hl) hd)))⟩⟩
theorem rc_tupT : RcR K (rTupOf K) [.tuple ds] (.tuple ds) := fun vs H r Q q => by
  obtain ⟨v, rfl, r1⟩ := rp1 r
  obtain ⟨a, ws, rfl, hs, hd⟩ := r1.tup
  exact ⟨a, ws, rfl, .inr ⟨hs, q _ H (Ex.refl H) (.inl (.tup hs hd))⟩⟩
theorem rc_sum {ns : List Int} : RcR K (rSum K) [lI ns] (.int ns.sum) := fun vs H r Q q => by
  obtain ⟨v, rfl, r1⟩ := rp1 r
  obtain ⟨a, ws, rfl, hs, hd⟩ := r1.lst
  rw [DpAll.ints hd] at hs
  exact ⟨a, ns, rfl, hs, q _ H (Ex.refl H) (.inl (.int _))⟩
theorem rc_all {bs : List Bool} : RcR K (rAll K) [.list (bs.map .bool)] (.bool (bs.all id)) := fun vs H r Q q => by
  obtain ⟨v, rfl, r1⟩ := rp1 r
  obtain ⟨a, ws, rfl, hs, hd⟩ := r1.lst
  rw [DpAll.bls hd] at hs
  exact ⟨a, bs, rfl, hs, q _ H (Ex.refl H) (.inl (.bl _))⟩
/-! one place -/
def RuR (K : PySem.W.Frag) (r : V → Hp → VK → Prop) (d e : D) : Prop := ∀ x H, Rp K H x d → ∀ Q : VK, (∀ v H', Ex H H' → Rp K H' v e → Q v H') → r x H Q
theorem ev_un {r : V → Hp → VK → Prop} (ha : EvR K ta Γ d) (hr : RuR K r d e) : EvR K (tUn r ta) Γ e := fun σ H E Q q => ha σ H E _ fun v H1 e1 r1 => hr v H1 r1 Q fun w H2 e2 r2 => q w H2 (e1.trans e2) r2
theorem ru_neg : RuR K (rU fun i => .int (-i)) (.int i) (.int (-i)) := fun x H r Q q => ⟨i, r.int, q _ H (Ex.refl H) (.inl (.int _))⟩
theorem ev_opR {r : R2} (ha : EvR K ta Γ d) (hb : EvR K tb Γ e) (hr : RvR K r d e f) : EvR K (tOp r ta tb) Γ f := ev_op ha hb hr
/-! a sequence backwards, cut: by what it is -/
inductive RevD : D → D → Prop
  | lst (ds : List D) : RevD (.list ds) (.list ds.reverse)
  | tup (ds : List D) : RevD (.tuple ds) (.tuple ds.reverse)
theorem ev_revD (ha : EvR K te Γ d) (h : RevD d e) : EvR K (tRevX K te) Γ e := by
  cases h with
  | lst ds => exact (ef_revX ha).r
  | tup ds => exact ev_revX ha
inductive SlD (lo hi : Option Int) : D → D → Prop
  | lst (ds : List D) : SlD lo hi (.list ds) (.list (cutD ds lo hi))
  | tup (ds : List D) : SlD lo hi (.tuple ds) (.tuple (cutD ds lo hi))
theorem ev_slD {tl th : TO} {lo hi : Option Int} (ha : EvR K te Γ d) (hl : EvP K tl Γ lo) (hh : EvP K th Γ hi) (h : SlD lo hi d e) : EvR K (tSl (rSlX K) te tl th) Γ e := by
  cases h with
  | lst ds => exact (ef_slX_L ha hl hh).r
  | tup ds => exact ev_slX_T ha hl hh
theorem ev_callF {F : List D → List D → Prop} {t : TA} {E : XK} (h : EvAs K t Γ ds) (hF : F ds es) : EvR K (tCall (spF K F) [] E t) Γ (.list es) := (ef_call h hF).r
theorem rev_ints (ns : List Int) : (ns.map PyData.int).reverse = ns.reverse.map .int := List.map_reverse.symm
theorem cut_ints (ns : List Int) (k : Nat) : cutD (ns.map PyData.int) (some (k : Int)) none = (ns.drop k).map .int := by
  rw [cutD_from, List.map_drop]
def okT (ds : List D) : Bool := noDs ds && decide (ds.length ≤ 100000)
theorem ev_tupR {ta : TA} (h : EvAs K ta Γ ds) (n : okT ds = true) : EvR K (tTup ta) Γ (.tuple ds) := by
  simp only [okT, Bool.and_eq_true, decide_eq_true_eq] at n
  exact ev_tup h n.1 n.2
theorem ef_lstR {ta : TA} (h : EvAs K ta Γ ds) (n : okT ds = true) : EvF K (tLst ta) Γ ds := by
  simp only [okT, Bool.and_eq_true, decide_eq_true_eq] at n
  exact ef_lst h n.1 n.2
def IsiD (d : D) (T : String) (b : Bool) : Prop := isDict d = false ∧ d ≠ .none ∧ kitB (tyD d) T = some b
theorem ev_isiR {T : String} (ha : EvR K ta Γ d) (h : IsiD d T b) : EvR K (tCB (rIsi K) (tCons ta (tCons (tC (.ty T)) tNil))) Γ (.bool b) := ev_isi ha h.1 h.2.1 h.2.2
theorem isi_int : IsiD (.int i) "int" true := ⟨rfl, (by intro z; cases z), show kitB "int" "int" = some true by decide +kernel⟩
theorem isi_int_bool : IsiD (.int i) "bool" false := ⟨rfl, (by intro z; cases z), show kitB "int" "bool" = some false by decide +kernel⟩
theorem isi_tup : IsiD (.tuple ds) "tuple" true := ⟨rfl, (by intro z; cases z), show kitB "tuple" "tuple" = some true by decide +kernel⟩
theorem isi_str {x : Str} : IsiD (.str x) "str" true := ⟨rfl, (by intro z; cases z), show kitB "str" "str" = some true by decide +kernel⟩
/-- a chain of two comparisons of ints -/
theorem ev_chain {r r' : R2} {tc : TE} (ha : EvR K ta Γ d) (hb : EvR K tb Γ e) (hr : RvR K r d e (.bool a)) (hc : a = true → EvR K tc Γ f) (hr' : a = true → RvR K r' e f (.bool b)) : EvR K (tChain r r' ta tb tc) Γ (.bool (a && b)) := fun σ H E Q q =>
  ha σ H E _ fun x H1 e1 r1 => hb σ H1 (E.mono e1) _ fun y H2 e2 r2 => hr x y H2 (r1.mono e2) r2 _ fun z H3 e3 r3 => ⟨a, r3.bool, by
    have E3 := E.mono ((e1.trans e2).trans e3)
    cases a with
    | true =>
      refine iteT (hc rfl σ H3 E3 _ fun w H4 e4 r4 => hr' rfl y w H4 (r2.mono (e3.trans e4)) r4 Q fun v H5 e5 r5 => q v H5 ((((e1.trans e2).trans e3).trans e4).trans e5) r5)
    | false => exact iteF (q _ H3 ((e1.trans e2).trans e3) (.inl (.bl _)))⟩
end
/-! the rules with the written part named -/
section
variable {X : Cx} (K : PySem.W.Frag)
theorem op_addK (h : X.K = K) : OpR X (binaryOp .Add) (rAddX K) := h ▸ op_addX
theorem op_eqK (h : X.K = K) (hu : X.A.units + 64 < cLine) : OpR X (compareOp .Eq) (rEqD K) := h ▸ op_eqD hu
theorem op_neK (h : X.K = K) (hu : X.A.units + 64 < cLine) : OpR X (compareOp .NotEq) (rNeD K) := h ▸ op_neD hu
theorem op_inK (h : X.K = K) (hu : X.A.units + 65 < cLine) : OpR X (compareOp .In) (rInA K false) := h ▸ op_inA hu
theorem op_niK (h : X.K = K) (hu : X.A.units + 65 < cLine) : OpR X (compareOp .NotIn) (rInA K true) := h ▸ op_notInA hu
theorem ix_K (h : X.K = K) : IxR X (rIxX K) := h ▸ ix_X
theorem sl_K (h : X.K = K) : SlR X (rSlX K) := h ▸ sl_X
theorem len_K (h : X.K = K) : CallR X (.builtin "len") (rLenS' K) := h ▸ call_len_seq
theorem isi_K (h : X.K = K) : CallR X (.builtin "isinstance") (rIsi K) := h ▸ call_isi
theorem min_K (h : X.K = K) (hc : X.calm = true) (hu : X.A.units + 65 < cLine) : CallR X (.builtin "min") (rMinX K) := h ▸ cr_minX hc hu
theorem sum_K (h : X.K = K) (hc : X.calm = true) : CallR X (.builtin "sum") (rSum K) := h ▸ cr_sum hc
theorem all_K (h : X.K = K) (hc : X.calm = true) : CallR X (.builtin "all") (rAll K) := h ▸ cr_all hc
theorem setOf_K {w : World} (h : X.K = K) (h2 : X.w = w) (hc : X.calm = true) : CallR X (.type "set") (rSetOf K w) := h ▸ h2 ▸ cr_setOf hc
theorem sortedSet_K {w : World} (h2 : X.w = w) (hc : X.calm = true) : CallR X (.builtin "sorted") (rSortedSet w) := h2 ▸ cr_sortedSet hc
theorem tupOf_K (h : X.K = K) : CallR X (.type "tuple") (rTupOf K) := h ▸ call_tuple_of
theorem listOf_K (h : X.K = K) : CallR X (.type "list") (rListOf K) := h ▸ call_list_of
theorem seq_K (h : X.K = K) {tg l : Expr} {tl : TE} (hl : PE X l tl) : PI X tg l (iSeq K tl) := h ▸ pi_seq hl
theorem rev_K (h : X.K = K) {e : Expr} {te : TE} {k : Nat} {p1 p2 p3 pos : Pos} (he : PE X e te) : PE X (.Subscript e (.Slice none none (some (.UnaryOp .USub (.Constant (.int 1) k p1) p2)) p3) pos) (tRevX K te) := h ▸ pe_revX he
theorem tup_K (h : X.K = K) {es : List Expr} {k : Nat} {t : TGs} {n : Nat} {pos : Pos} (hc : X.calm = true) (ht : PGs X es t) (hn : (assignEach es X.env).length = n := by rfl) (hst : (assignEach es X.env).findIdx? (·.1) = none := by rfl) : PG X (.Tuple es k pos) (gTup K n t) := h ▸ pg_tup hc ht hn hst
end
end KW

set_option Elab.async false
set_option linter.all false
set_option maxRecDepth 100000
set_option maxHeartbeats 8000000
/-! a pool of numbers with its place: what is drawn from it -/
namespace KW
open PySem PySem.Spec PyProof.Rows L2 Evl
def PoolAt (H : Hp) (l c : Addr) (at' : Int) : Prop := ∃ (r : Addr) (ns : List Int), H l = some (.lst [.ref r, .ref c]) ∧ H r = some (.lst (ns.map .int)) ∧ H c = some (.lst [.int at']) ∧ l ≠ c ∧ r ≠ c ∧ 0 ≤ at' ∧ 0 < ns.length ∧ ns.length ≤ 80 ∧ ∀ x ∈ ns, 0 ≤ x ∧ x < (4096 : Int)
/-- hands back some data for which Fr holds, and turns the pool's place on -/
def spX (K : PySem.W.Frag) (ok : List D → Prop) (Fr : List D → D → Prop) (cost : Nat) : Sp := fun vs H Q _ => ∃ l c at' ws ds, vs = .ref l :: ws ∧ PoolAt H l c at' ∧ at' ≤ 1000000 ∧ RpAll K H ws ds ∧ ok ds ∧
  ∀ d v H' a2, Fr ds d → noL d = true → Dp K H' v d → (∀ a o, a ≠ c → H a = some o → H' a = some o) → H' c = some (.lst [.int a2]) → at' ≤ a2 → a2 ≤ at' + cost → Q v H'
/-- how many cells are taken -/
abbrev poolN (len : Int) : Int := if (if len > 1 then len else 1) < 4 then (if len > 1 then len else 1) else 4
def spPool (K : PySem.W.Frag) : Sp := fun vs H Q _ => ∃ ns : List Int, RpAll K H vs [lI ns] ∧ ns.length ≤ 1000 ∧ ∀ (l r c : Addr) (ms : List Int) (H' : Hp), H l = none → H r = none → H c = none → l ≠ c → r ≠ c → Ex H H' → H' l = some (.lst [.ref r, .ref c]) → H' r = some (.lst (ms.map .int)) → H' c = some (.lst [.int 0]) →
  0 < ms.length → ms.length ≤ 80 → (∀ x ∈ ms, 0 ≤ x ∧ x < (4096 : Int)) → Q (.ref l) H'
/-- what evaluates to some data, the state turned -/
def Xv (K : PySem.W.Frag) (te : TE) (S S' : SS) (R : D → Prop) : Prop := ∀ B σ H, SB K B H σ S → ∀ Q : VK, (∀ d v B' H', Ex B B' → R d → noL d = true → Rp K B' v d → SB K B' H' σ S' → Q v H') → te σ H Q
section
variable {K : PySem.W.Frag} {S S1 S2 : SS} {ta tb te tn : TE} {R R1 R2 : D → Prop} {ip m cost : Nat}
/-- the pool's slot is turned on -/
theorem SA.turn {Hm H H' : Hp} {σ : L2.St} {A : Nat → List Addr} {l c : Addr} {a2 : Int} (sa : SA K Hm H σ S A) (hs : S[ip]? = some (.pl m)) (hv : σ[ip]? = some (some (.ref l))) (ho : Own K (.pl m) (.ref l) Hm H (A ip)) (hA : A ip = [c])
    (x : ∀ a o, a ≠ c → H a = some o → H' a = some o) (hc : H' c = some (.lst [.int a2])) (h0 : 0 ≤ a2) (h1 : a2 ≤ (m : Int) + cost) : SA K (strip H' A) H' σ (S.set ip (.pl (m + cost))) A ∧ Ex Hm (strip H' A) := by
  have hcA : c ∈ A ip := by rw [hA]; simp
  have ex : Ex Hm (strip H' A) := fun a o q => by
    have na : ∀ i, a ∉ A i := fun i hi => by rw [sa.out i a hi] at q; cases q
    have ne : a ≠ c := fun z => by subst z; exact na ip hcA
    rw [strip_out na]
    exact x a o ne (sa.ex a o q)
  refine ⟨⟨strip_ex, by simp [sa.len], fun k e q n => ?_, fun k q => ?_, sa.sep, fun k a ha => strip_in ha⟩, ex⟩
  · by_cases hk : ip = k
    · subst hk
      have hi : ip < S.length := (List.getElem?_eq_some_iff.mp hs).1
      rw [List.getElem?_set_self hi] at q
      cases q
      obtain ⟨l', r, c', ns, a0, e1, e2, g1, g2, g3, g4⟩ := ho
      cases e1
      rw [hA] at e2
      have : c = c' := by simpa using e2
      subst this
      exact ⟨.ref l, hv, l, r, c, ns, a2, rfl, hA, ex _ _ g1, ex _ _ g2, hc, h0, by simpa using h1, g4.2.2⟩
    · rw [List.getElem?_set_ne hk] at q
      obtain ⟨v', w1, w2⟩ := sa.own k e q n
      refine ⟨v', w1, w2.kept ex fun a ha o z => x a o ?_ z⟩
      exact fun z => by subst z; exact sa.sep ip k a hk hcA ha
  · by_cases hk : ip = k
    · subst hk
      have hi : ip < S.length := (List.getElem?_eq_some_iff.mp hs).1
      rw [List.getElem?_set_self hi] at q
      rcases q with q | q <;> cases q
    · rw [List.getElem?_set_ne hk] at q
      exact sa.empty k q
theorem xv_call {ok : List D → Prop} {Fr : List D → D → Prop} {t : TA} {ds : List D} (hs : S[ip]? = some (.pl m)) (h : EvAs K t (gm S) ds) (ho : ok ds) (hm : m ≤ 1000000) : Xv K (tCall (spX K ok Fr cost) [] E0 (tCons (tVar ip) t)) S (S.set ip (.pl (m + cost))) (Fr ds) := fun B σ H sb Q q => by
  obtain ⟨Hm, A, eB, sa⟩ := sb
  obtain ⟨v, hv, hown⟩ := sa.own ip _ hs (by intro z; cases z)
  obtain ⟨l, r, c, ns, at', rfl, hA, g1, g2, g3, g4, g5, g6, g7, g8⟩ := id hown
  refine ⟨_, hv, h σ H sa.env _ fun ws H1 e1 r1 => ?_⟩
  show spX K ok Fr cost (.ref l :: (ws ++ [])) H1 Q E0
  rw [List.append_nil]
  have sa1 := sa.grow e1
  have hown1 : Own K (.pl m) (.ref l) (strip H1 A) H1 (A ip) := hown.kept (sa.strip_of e1) fun a _ o z => e1 a o z
  have hcA : c ∈ A ip := by rw [hA]; simp
  have hc0 : Hm c = none := sa.out ip c hcA
  refine ⟨l, c, at', ws, ds, rfl, ⟨r, ns, e1 _ _ (sa.ex _ _ g1), e1 _ _ (sa.ex _ _ g2), e1 _ _ g3, ?_, ?_, g4, g6, g7, g8⟩, by omega, r1, ho, fun d v H' a2 hF n hd fr hc h1 h2 => ?_⟩
  · rintro rfl; rw [hc0] at g1; cases g1
  · rintro rfl; rw [hc0] at g2; cases g2
  · obtain ⟨sa2, ex2⟩ := sa1.turn (cost := cost) hs hv hown1 hA fr hc (by omega) (by omega)
    refine q d v _ H' ((eB.trans (sa.strip_of e1)).trans ex2) hF n ?_ ⟨_, A, Ex.refl _, sa2⟩
    exact Rp.mapT (sa2.sqT (Ex.refl H')) n (.inl hd)
theorem xv_add {a : Int} (h : Xv K tb S S1 R) (hR : ∀ d, R d → ∃ i, d = .int i) : Xv K (tOp (rAddX K) (tC (.int a)) tb) S S1 (fun d => ∃ i, R (.int i) ∧ d = .int (a + i)) := fun B σ H sb Q q => h B σ H sb _ fun d v B' H' e r n rp sb' => by
  obtain ⟨i, rfl⟩ := hR d r
  exact .inl ⟨a, i, rfl, rp.int, q _ _ B' H' e ⟨i, r, rfl⟩ rfl (.inl (.int _)) sb'⟩
/-- an item of a list that stands in a slot, at a drawn place -/
theorem xv_ix {iu : Nat} {ds : List D} (hu : S[iu]? = some (.im (.list ds))) (hd : noLs ds = true) (h : Xv K tb S S1 R) (hR : ∀ d, R d → ∃ i : Nat, d = .int (i : Int) ∧ i < ds.length) : Xv K (tOp (rIxX K) (tVar iu) tb) S S1 (fun d => ∃ i : Nat, R (.int (i : Int)) ∧ ds[i]? = some d) := fun B σ H sb Q q => by
  obtain ⟨Hm, A, eB, sa⟩ := sb
  obtain ⟨v, hv, hown⟩ := sa.own iu _ hu (by intro z; cases z)
  obtain ⟨a, vs, rfl, hl, hda⟩ := hown.1.lst
  refine ⟨_, hv, h Hm σ H ⟨Hm, A, Ex.refl _, sa⟩ _ fun d w B' H' e r n rp sb' => ?_⟩
  obtain ⟨i, rfl, hi⟩ := hR d r
  have hl' : SqL K B' a vs := ex_l e hl
  have hda' := DpAll.mono e hda
  obtain ⟨x, h1, h2⟩ := DpAll.get hda' (List.getElem?_eq_getElem hi)
  have nx : noL ds[i] = true := noLs_all.mp hd _ (List.getElem_mem hi)
  exact .inl ⟨a, vs, i, x, rfl, rp.int, ex_l sb'.ex hl', atI_nat h1, q ds[i] x B' H' (eB.trans e) ⟨i, r, List.getElem?_eq_getElem hi⟩ nx (.inl h2) sb'⟩
theorem Xv.pure {d : D} (h : EvR K te (gm S) d) (n : noL d = true) : Xv K te S S (fun e => e = d) := fun B σ H sb Q q => h σ H sb.env _ fun v H1 e1 r1 => by
  obtain ⟨Hm, A, eB, sa⟩ := sb
  exact q d v _ H1 (eB.trans (sa.strip_of e1)) rfl n (Rp.mapT (sa.sqT e1) n r1) ⟨_, A, Ex.refl _, sa.grow e1⟩
theorem Xv.imp (h : Xv K te S S1 R) (i : ∀ d, R d → R1 d) : Xv K te S S1 R1 := fun B σ H sb Q q => h B σ H sb Q fun d v B' H' e r n rp sb' => q d v B' H' e (i d r) n rp sb'
theorem SB.putB {B B' H : Hp} {σ : L2.St} {d : D} {v : V} {i : Nat} (sb : SB K B' H σ S) (r : Rp K B' v d) (hi : i < S.length) : SB K B' H (σ.set i (some v)) (S.set i (.im d)) := by
  obtain ⟨Hm, A, a, sa⟩ := sb
  exact ⟨_, _, a, sa.putIm hi (r.mono a)⟩
variable {B : Hp} {P : Post} {i j : Nat}
theorem run_setX (h : Xv K te S S1 R) (hi : i < S1.length) (k : ∀ d, R d → P.nx (S1.set i (.im d))) : Run K B (tAsg te (gName i)) S P := fun B' e D σ H sb nx rt bk ct =>
  h B' σ H sb _ fun d v B2 H1 eB r n rp sb1 => nx _ H1 _ ((sb1.putB (B := B) rp hi).mono eB) (k d r)
theorem run_par2X (h1 : Xv K ta S S1 R1) (h2 : Xv K tb S1 S2 R2) (hi : i < S2.length) (hj : j < S2.length) (k : ∀ d e, R1 d → R2 e → P.nx ((S2.set i (.im d)).set j (.im e))) : Run K B (tPar i j (tCons ta (tCons tb tNil))) S P := fun B' e D σ H sb nx rt bk ct =>
  h1 B' σ H sb _ fun d v B1 H1 e1 r1 n1 rp1 sb1 => h2 B1 σ H1 sb1 _ fun d2 w B2 H2 e2 r2 n2 rp2 sb2 => ⟨v, w, rfl, nx _ H2 _ (((sb2.putB (B := B) (rp1.mono e2) hi).putB (B := B) rp2 (by simpa using hj)).mono (e1.trans e2)) (k d d2 r1 r2)⟩
theorem run_tup2X (h1 : Xv K ta S S1 R1) (h2 : Xv K tb S1 S2 R2) (hi : i < S2.length) (hj : j < S2.length) (k : ∀ d e, R1 d → R2 e → P.nx ((S2.set i (.im d)).set j (.im e))) :
    Run K B (tAsg (tTup (tCons ta (tCons tb tNil))) (gTup K 2 (gCons (gName i) (gCons (gName j) gNil)))) S P := fun B' e D σ H sb nx rt bk ct =>
  h1 B' σ H sb _ fun d v B1 H1 e1 r1 n1 rp1 sb1 => h2 B1 σ H1 sb1 _ fun d2 w B2 H2 e2 r2 n2 rp2 sb2 => ⟨by show 2 ≤ sizeLine; decide, fun p hp => by
    have sb3 := sb2.grow (Ex.new hp (o := .tup [v, w]))
    exact ⟨p, [v, w], rfl, st_of upd_same, rfl, v, [w], rfl, w, [], rfl, rfl, nx _ _ _ (((sb3.putB (B := B) (rp1.mono e2) hi).putB (B := B) rp2 (by simpa using hj)).mono (e1.trans e2)) (k d d2 r1 r2)⟩⟩
/-- a tuple of data taken apart -/
theorem run_unpack {d : D} {g : TG} {js : List (Nat × D)} (h : EvR K te (gm S) d) (n : noL d = true) (hg : Tg K g d js) (hj : ∀ p ∈ js, p.1 < S.length) (k : P.nx (setS S js)) : Run K B (tAsg te g) S P := fun B' e D σ H sb nx rt bk ct =>
  h σ H sb.env _ fun v H1 e1 r1 => by
    obtain ⟨Hm, A, eB, sa⟩ := sb
    have sa1 := sa.grow e1
    obtain ⟨ws, jw, gq⟩ := hg v _ (Rp.mapT (sa.sqT e1) n r1)
    obtain ⟨A', sa2⟩ := jw.sa hj sa1
    exact gq H1 strip_ex σ _ (nx _ H1 _ ⟨_, A', eB.trans (sa.strip_of e1), sa2⟩ k)
/-- xs = xs + a new list -/
theorem run_cat {ds es : List D} (hs : S[i]? = some (.ow ds)) (h : EvF K tb (gm S) es) (n : noLs es = true) (hl : ds.length + es.length ≤ 100000) (k : P.nx (S.set i (.ow (ds ++ es)))) : Run K B (tAsg (tOp (rAddX K) (tVar i) tb) (gName i)) S P := fun B' e D σ H sb nx rt bk ct => by
  have sbk := sb
  obtain ⟨Hm, A, eB, sa⟩ := sb
  obtain ⟨v, hv, ho⟩ := sa.own i _ hs (by intro z; cases z)
  obtain ⟨l, vs, rfl, hA, hl', hd⟩ := ho
  have hiS : i < S.length := (List.getElem?_eq_some_iff.mp hs).1
  have hlA : l ∈ A i := by rw [hA]; simp
  refine ⟨_, hv, h σ H sa.env _ fun p ws H1 np e1 hp he => .inr (.inr ⟨l, p, vs, ws, rfl, rfl, e1 _ _ hl', hp, sz_of (by rw [DpAll.length hd, DpAll.length he]; exact hl), fun q hq => ?_⟩)⟩
  -- the slot is let go, then holds the new list
  have sa1 := sa.grow e1
  have hq0 : H q = none := fresh_back e1 hq
  have ex2 : Ex H (upd H1 q (.lst (vs ++ ws))) := e1.trans (Ex.new hq)
  have sa2 := sa.grow ex2
  have np' : ∀ k, q ∉ A k := fresh_own sa hq0
  let Hm2 := del (strip (upd H1 q (.lst (vs ++ ws))) A) q
  have npm : Hm q = none := by
    cases z : Hm q with
    | none => rfl
    | some o => rw [sa.ex q o z] at hq0; cases hq0
  have e3 : Ex Hm Hm2 := fun c o z => by
    have : c ≠ q := fun y => by subst y; rw [npm] at z; cases z
    show del _ q c = some o
    rw [del_ne this]
    exact sa.strip_of ex2 c o z
  have sa3 : SA K Hm2 (upd H1 q (.lst (vs ++ ws))) σ S A :=
    { ex := del_ex.trans strip_ex, len := sa.len, empty := sa.empty, sep := sa.sep
      own := fun k e' z m => by
        obtain ⟨v, x, y⟩ := sa.own k e' z m
        exact ⟨v, x, y.kept e3 fun c _ o z => ex2 c o z⟩
      out := fun k c hc => by
        show del _ q c = none
        by_cases z : c = q
        · subst z; exact del_same
        · rw [del_ne z]; exact strip_in hc }
  have ft : ∀ b ys, SqT K (upd H1 q (.lst (vs ++ ws))) b ys → SqT K Hm2 b ys := fun b ys z => del_sqT (D := q) (xs := vs ++ ws) (by rw [strip_out np']; exact upd_same) b ys (sa.sqT ex2 b ys z)
  have hes : DpAll K Hm2 ws es := DpAll.mapT ft es ws n (DpAll.mono (Ex.new hq) he)
  have sa4 := sa3.put (i := i) (v := .ref q) (e := .ow (ds ++ es)) (as := [q]) hiS ⟨q, vs ++ ws, rfl, rfl, upd_same, DpAll.append (DpAll.mono e3 hd) hes⟩ (fun k c _ hc hk => by
    rw [List.mem_singleton.mp hc] at hk
    exact np' k hk) (fun c hc => by rw [List.mem_singleton.mp hc]; exact del_same) (fun z => by cases z)
  exact nx _ _ _ ⟨_, _, eB.trans e3, sa4⟩ k
theorem run_setPool {ns : List Int} {ta : TA} (h : EvAs K ta (gm S) [lI ns]) (hn : ns.length ≤ 1000) (hi : i < S.length) (k : P.nx (S.set i (.pl 0))) : Run K B (tAsg (tCall (spPool K) [] E0 ta) (gName i)) S P := fun B' e D σ H sb nx rt bk ct => by
  obtain ⟨Hm, A, eB, sa⟩ := sb
  refine h σ H sa.env _ fun vs H1 e1 r1 => ?_
  show spPool K (vs ++ []) H1 _ E0
  rw [List.append_nil]
  refine ⟨ns, r1, hn, fun l r c ms H' fl fr fc n1 n2 x hl hr hc h0 h80 hms => ?_⟩
  have ex2 := e1.trans x
  have al : ∀ k, l ∉ A k := fresh_own sa (fresh_back e1 fl)
  have ar : ∀ k, r ∉ A k := fresh_own sa (fresh_back e1 fr)
  have ac : ∀ k, c ∉ A k := fresh_own sa (fresh_back e1 fc)
  have hcm : Hm c = none := by
    cases z : Hm c with
    | none => rfl
    | some o => rw [e1 c o (sa.ex c o z)] at fc; cases fc
  have e3 : Ex Hm (del (strip H' A) c) := fun a o z => by
    have : a ≠ c := fun y => by subst y; rw [hcm] at z; cases z
    rw [del_ne this]
    exact sa.strip_of ex2 a o z
  have sa3 : SA K (del (strip H' A) c) H' σ S A :=
    { ex := del_ex.trans strip_ex, len := sa.len, empty := sa.empty, sep := sa.sep
      own := fun k e' z m => by
        obtain ⟨v, x, y⟩ := sa.own k e' z m
        exact ⟨v, x, y.kept e3 fun c _ o z => ex2 c o z⟩
      out := fun k a ha => by
        by_cases z : a = c
        · subst z; exact del_same
        · rw [del_ne z]; exact strip_in ha }
  have sa4 := sa3.put (i := i) (v := .ref l) (e := .pl 0) (as := [c]) hi ⟨l, r, c, ms, 0, rfl, rfl, by rw [del_ne n1, strip_out al]; exact hl, by rw [del_ne n2, strip_out ar]; exact hr, hc, Int.le_refl _, by omega, h0, h80, hms⟩
    (fun k a _ ha hk => by
      rw [List.mem_singleton.mp ha] at hk
      exact ac k hk) (fun a ha => by rw [List.mem_singleton.mp ha]; exact del_same) (fun z => by cases z)
  exact nx _ _ _ ⟨_, _, eB.trans e3, sa4⟩ k
end
end KW

set_option Elab.async false
set_option linter.all false
set_option maxRecDepth 100000
set_option maxHeartbeats 8000000
namespace K70
open PySem PySem.Spec PyProof.Rows L2 KW
def topS (i : Nat) : Stmt := PySem.Challenge.pw_knotwright_k70_whole_two_bridges_reckone.main.body.getD i (.Pass ⟨0, 0, 0, 0⟩)
abbrev s_is_whole : Stmt := topS 1
theorem sc_is_whole : FnScope ["value"] ["value"] (defScope s_is_whole) := ⟨rfl, rfl, rfl, by decide +kernel, rfl, by decide +kernel, by decide +kernel⟩
abbrev s_is_from : Stmt := topS 2
theorem sc_is_from : FnScope ["value", "low", "high"] ["value", "low", "high"] (defScope s_is_from) := ⟨rfl, rfl, rfl, by decide +kernel, rfl, by decide +kernel, by decide +kernel⟩
abbrev s_is_named : Stmt := topS 3
theorem sc_is_named : FnScope ["value", "word", "size"] ["value", "word", "size"] (defScope s_is_named) := ⟨rfl, rfl, rfl, by decide +kernel, rfl, by decide +kernel, by decide +kernel⟩
abbrev s_unlike : Stmt := topS 4
theorem sc_unlike : FnScope ["items"] ["items"] (defScope s_unlike) := ⟨rfl, rfl, rfl, by decide +kernel, rfl, by decide +kernel, by decide +kernel⟩
abbrev s_common : Stmt := topS 5
theorem sc_common : FnScope ["a", "b"] ["a", "b"] (defScope s_common) := ⟨rfl, rfl, rfl, by decide +kernel, rfl, by decide +kernel, by decide +kernel⟩
abbrev s_fraction : Stmt := topS 7
theorem sc_fraction : FnScope ["row", "p", "q", "x"] ["row"] (defScope s_fraction) := ⟨rfl, rfl, rfl, by decide +kernel, rfl, by decide +kernel, by decide +kernel⟩
abbrev s_row_for : Stmt := topS 8
theorem sc_row_for : FnScope ["p", "q", "found"] ["p", "q"] (defScope s_row_for) := ⟨rfl, rfl, rfl, by decide +kernel, rfl, by decide +kernel, by decide +kernel⟩
abbrev s_odd_row : Stmt := topS 9
theorem sc_odd_row : FnScope ["p", "q", "row"] ["p", "q"] (defScope s_odd_row) := ⟨rfl, rfl, rfl, by decide +kernel, rfl, by decide +kernel, by decide +kernel⟩
abbrev s_bridge_paper : Stmt := topS 10
theorem sc_bridge_paper : FnScope ["p", "q", "other", "kind", "x"] ["p", "q", "other"] (defScope s_bridge_paper) := ⟨rfl, rfl, rfl, by decide +kernel, rfl, by decide +kernel, by decide +kernel⟩
abbrev s_inverse : Stmt := topS 11
theorem sc_inverse : FnScope ["q", "p", "x"] ["q", "p"] (defScope s_inverse) := ⟨rfl, rfl, rfl, by decide +kernel, rfl, by decide +kernel, by decide +kernel⟩
abbrev s_check_bridge : Stmt := topS 12
theorem sc_check_bridge : FnScope ["p", "q", "other", "value"] ["p", "q", "other", "value"] (defScope s_check_bridge) := ⟨rfl, rfl, rfl, by decide +kernel, rfl, by decide +kernel, by decide +kernel⟩
abbrev s_is_own_mirror : Stmt := topS 13
theorem sc_is_own_mirror : FnScope ["p", "q"] ["p", "q"] (defScope s_is_own_mirror) := ⟨rfl, rfl, rfl, by decide +kernel, rfl, by decide +kernel, by decide +kernel⟩
abbrev s_count_links : Stmt := topS 14
theorem sc_count_links : FnScope ["p", "left", "q"] ["p"] (defScope s_count_links) := ⟨rfl, rfl, rfl, by decide +kernel, rfl, by decide +kernel, by decide +kernel⟩
abbrev s__law_cell : Stmt := topS 16
theorem sc__law_cell : FnScope ["script", "k"] ["script", "k"] (defScope s__law_cell) := ⟨rfl, rfl, rfl, by decide +kernel, rfl, by decide +kernel, by decide +kernel⟩
abbrev s__law_draws : Stmt := topS 17
theorem sc__law_draws : FnScope ["cell", "amount", "rows", "left", "k", "blended"] ["cell", "amount"] (defScope s__law_draws) := ⟨rfl, rfl, rfl, by decide +kernel, rfl, by decide +kernel, by decide +kernel⟩
abbrev s__law_pool : Stmt := topS 18
theorem sc__law_pool : FnScope ["script", "rows", "k"] ["script"] (defScope s__law_pool) := ⟨rfl, rfl, rfl, by decide +kernel, rfl, by decide +kernel, by decide +kernel⟩
abbrev s__law_pick : Stmt := topS 19
theorem sc__law_pick : FnScope ["pool", "amount", "at", "turn"] ["pool", "amount"] (defScope s__law_pick) := ⟨rfl, rfl, rfl, by decide +kernel, rfl, by decide +kernel, by decide +kernel⟩
abbrev s__law_gcd : Stmt := topS 20
theorem sc__law_gcd : FnScope ["a", "b"] ["a", "b"] (defScope s__law_gcd) := ⟨rfl, rfl, rfl, by decide +kernel, rfl, by decide +kernel, by decide +kernel⟩
abbrev s_law : Stmt := topS 21
theorem sc_law : FnScope ["script", "pool", "p", "units", "own", "q", "r", "back", "other", "told", "row", "a", "b", "x"] ["script"] (defScope s_law) := ⟨rfl, rfl, rfl, by decide +kernel, rfl, by decide +kernel, by decide +kernel⟩
local macro_rules | `(tactic| walk_at "ev") => `(tactic| repeat' (first
  | with_reducible exact ev_int | with_reducible exact ev_str | with_reducible exact ev_bool | with_reducible exact ev_none
  | ((with_reducible apply ev_var); exact rfl)
  | with_reducible exact rv_add | with_reducible exact rv_sub | with_reducible exact rv_lt | with_reducible exact rv_le | with_reducible exact rv_gt | with_reducible exact rv_ge
  | with_reducible exact rv_eqI | with_reducible exact rv_neI | with_reducible exact rv_eqB | with_reducible exact rv_neB | with_reducible exact rv_eqT | with_reducible exact rv_neT | with_reducible exact rv_eqLI | with_reducible exact rv_neLI
  | with_reducible exact rv_isB | with_reducible exact rv_notB | with_reducible exact rv_inLI | with_reducible exact rv_inTI | with_reducible exact rv_niLI | with_reducible exact rv_niTI
  | ((with_reducible apply rv_eqS) <;> decide +kernel) | ((with_reducible apply rv_neS) <;> decide +kernel)
  | with_reducible apply rv_mul | with_reducible apply rv_mod | with_reducible apply rv_fdiv | with_reducible apply rv_pow | with_reducible apply rv_ixTI | with_reducible apply rv_ixLI | with_reducible apply rv_ixT | with_reducible apply rv_ixL | with_reducible apply rv_addT
  | with_reducible exact ru_neg
  | with_reducible exact rc_abs | with_reducible exact rc_max | with_reducible exact rc_min | with_reducible exact rc_minT | with_reducible exact rc_intI | with_reducible exact rc_intB | with_reducible exact rc_lenTI | with_reducible exact rc_lenLI | with_reducible exact rc_lenT | with_reducible exact rc_lenL | with_reducible exact rc_tupL | with_reducible exact rc_tupT | with_reducible exact rc_sum | with_reducible exact rc_all
  | with_reducible apply ev_opR
  | with_reducible apply ev_isiR
  | with_reducible exact isi_int | with_reducible exact isi_int_bool | with_reducible exact isi_tup | with_reducible exact isi_str
  | with_reducible apply ev_cbR
  | with_reducible apply KW.ev_un
  | with_reducible apply ev_tupR
  | ((with_reducible show okT _ = true); exact rfl)
  | with_reducible apply ev_revD
  | with_reducible exact RevD.lst _ | with_reducible exact RevD.tup _
  | with_reducible apply ev_slD
  | with_reducible exact SlD.lst _ | with_reducible exact SlD.tup _
  | with_reducible apply ef_lstR
  | with_reducible apply KW.ef_call
  | with_reducible apply KW.ef_addX_L
  | with_reducible apply KW.ef_listRg1 | with_reducible apply KW.ev_tupRg1 | with_reducible apply KW.ev_tupRg2
  | with_reducible apply ep_some
  | with_reducible exact ep_none
  | with_reducible apply KW.eb_test
  | with_reducible apply KW.eb_B
  | with_reducible apply KW.eb_not
  | with_reducible apply KW.ev_not
  | with_reducible exact eas_nil
  | with_reducible apply eas_cons
  | with_reducible apply KW.eb_and
  | with_reducible apply KW.eb_or
  | with_reducible apply KW.ev_and
  | with_reducible apply KW.ev_or
  | with_reducible apply KW.ev_chain
  | with_reducible apply KW.ev_call | with_reducible apply KW.ev_callF
  | walk_at "fr"
  | with_reducible refine fun (_ : _ = true) => ?_
  | with_reducible refine fun (_ : _ = false) => ?_))
local macro_rules | `(tactic| walk_at "sd") => `(tactic| first
  | assumption | omega | exact rfl | exact noL_tI _ | exact noLs_ints _ | exact Nat.le_of_ble_eq_true rfl
  | (refine Or.inl ⟨?_, ?_⟩ <;> omega) | (refine Or.inr ⟨?_, ?_⟩ <;> omega) | (refine And.intro ?_ ?_ <;> omega) | exact ⟨by omega, by omega, by decide⟩
  | exact ⟨_, _, rfl, rfl⟩)
local macro_rules | `(tactic| walk_at "set") => `(tactic| (apply run_seq; apply run_setR; (focus walk_at "ev"); all_goals (try walk_at "sd"); try dsimp only [List.set]))
local macro_rules | `(tactic| walk_at "setF") => `(tactic| (apply run_seq; apply run_setF; (focus walk_at "ev"); all_goals (try walk_at "sd"); try dsimp only [List.set]))
local macro_rules | `(tactic| walk_at "if") => `(tactic| (apply run_seq; apply run_if; (focus walk_at "ev"); all_goals (try walk_at "sd")))
local macro_rules | `(tactic| walk_at "if1") => `(tactic| (apply run_if; (focus walk_at "ev"); all_goals (try walk_at "sd")))
local macro_rules | `(tactic| walk_at "ret") => `(tactic| (apply ret_R; apply EvR.to; (focus walk_at "ev"); all_goals (try walk_at "sd")))
local macro_rules | `(tactic| walk_at "app") => `(tactic| (apply run_app; exact rfl; (focus walk_at "ev"); all_goals (try walk_at "sd"); try dsimp only [List.set]))
local macro_rules | `(tactic| walk_at "fr") => `(tactic| first | exact ⟨_, _, rfl, by omega, rfl⟩ | exact ⟨_, rfl, rfl⟩ | exact ⟨_, _, rfl, rfl⟩ | exact ⟨_, _, _, rfl, rfl⟩)

section
variable {P : Program} {w : World} {K : PySem.W.Frag} {mg : Str → Option Value} {base : Heap}
/-! _law_cell -/
def frCell : List D → D → Prop := fun ds d => ∃ (ns : List Int) (k : Int), ds = [lI ns, .int k] ∧ 0 ≤ k ∧ d = .int (ns.getD k.toNat 0)
theorem ok__law_cell {f : Addr} {fd : FuncData} (F : Fun K "_law_cell" "_law_cell" s__law_cell f fd) (m : Bl mg) : FnOk P w K mg base CX0 1 f fd ["script", "k"] (spR K frCell) := by
  refine def_R F sc__law_cell frCell (fun ds d ⟨_, _, h, _⟩ => by rw [h]; rfl) fun cdv A outer s H E hr => ⟨_, (pss_cons (ps_if (pt_cmpR op_lt (pv 1) (pe_callB (len_K K rfl) (by rfl) m.len PySem.boot_len (pa_cons (pv 0) pa_nil)) (nomark _)) (pss_one (ps_ret (pe_ix (ix_K K rfl) (pv 0) (pv 1) (fun _ _ => rfl)))) pss_nil)
        (pss_one (ps_ret pe_int))), fun ds d ⟨ns, k, h1, h0, h2⟩ B => ?_⟩
  subst h1 h2
  try dsimp only [cxOf, Cx.nox, Cx.wish]
  change Run K B _ [.im (lI ns), .im (.int k)] _
  walk_at "if"
  · intro h
    have h := of_decide_eq_true h
    walk_at "ret"
  · intro h
    have h := of_decide_eq_false h
    refine run_nx ?_
    walk_at "ret"
    rw [List.getD_eq_getElem?_getD, List.getElem?_eq_none (by omega)]
    rfl

/-! _law_draws -/
def blend (cell k : Int) : Int :=
  ((((cell * 48271 + (k + 1) * 69621) % 2147483647 * ((cell * 48271 + (k + 1) * 69621) % 2147483647) + (cell * 48271 + (k + 1) * 69621) % 2147483647 * 16807 + k * 7919) % 2147483629 *
    (((cell * 48271 + (k + 1) * 69621) % 2147483647 * ((cell * 48271 + (k + 1) * 69621) % 2147483647) + (cell * 48271 + (k + 1) * 69621) % 2147483647 * 16807 + k * 7919) % 2147483629) + cell + 13 * k) % 2147483587) / 7 % 4096
def drawStep (cell : Int) (st : List Int × Int) (k : Int) : List Int × Int :=
  if 10 ^ 18 ≤ cell ∧ 0 < st.2 then (st.1 ++ [st.2 % 4096], st.2 / 4096) else (st.1 ++ [blend cell k], st.2)
def draws (cell : Int) : List Int := ((rgI 0 20).foldl (drawStep cell) ([], cell)).1
theorem drawStep_ok (cell : Int) (st : List Int × Int) (k : Int) (h : ∀ x ∈ st.1, 0 ≤ x ∧ x < (4096 : Int)) : (drawStep cell st k).1.length = st.1.length + 1 ∧ ∀ x ∈ (drawStep cell st k).1, 0 ≤ x ∧ x < (4096 : Int) := by
  unfold drawStep
  split
  · refine ⟨by simp, fun x hx => ?_⟩
    rcases List.mem_append.mp hx with hx | hx
    · exact h x hx
    · rw [List.mem_singleton.mp hx]; omega
  · refine ⟨by simp, fun x hx => ?_⟩
    rcases List.mem_append.mp hx with hx | hx
    · exact h x hx
    · rw [List.mem_singleton.mp hx]
      unfold blend
      omega
theorem drawFold_ok (cell : Int) : ∀ (l : List Int) (st : List Int × Int), (∀ x ∈ st.1, 0 ≤ x ∧ x < (4096 : Int)) → (l.foldl (drawStep cell) st).1.length = st.1.length + l.length ∧ ∀ x ∈ (l.foldl (drawStep cell) st).1, 0 ≤ x ∧ x < (4096 : Int)
  | [], st, h => ⟨rfl, h⟩
  | k :: l, st, h => by
    obtain ⟨h1, h2⟩ := drawStep_ok cell st k h
    obtain ⟨h3, h4⟩ := drawFold_ok cell l (drawStep cell st k) h2
    refine ⟨?_, h4⟩
    rw [List.foldl_cons, h3, h1, List.length_cons]
    omega
theorem draws_ok (cell : Int) : (draws cell).length = 20 ∧ ∀ x ∈ draws cell, 0 ≤ x ∧ x < (4096 : Int) := drawFold_ok cell (rgI 0 20) ([], cell) (fun _ h => by cases h)
def frDraws : List D → List D → Prop := fun ds es => ∃ cell : Int, ds = [.int cell, .int 20] ∧ es = (draws cell).map .int
theorem ok__law_draws {f : Addr} {fd : FuncData} (F : Fun K "_law_draws" "_law_draws" s__law_draws f fd) (m : Bl mg) : FnOk P w K mg base CX0 1 f fd ["cell", "amount"] (spF K frDraws) := by
  refine def_F F sc__law_draws frDraws (fun ds d ⟨_, h, _⟩ => by rw [h]; rfl) fun cdv A outer s H E hr => ⟨_, (pss_cons (ps_set (i := 2) sc__law_draws.nd rfl (.inl rfl) (pe_lst pa_nil))
        (pss_cons (ps_set (i := 3) sc__law_draws.nd rfl (.inl rfl) (pv 0))
        (pss_cons (ps_for PassesOwn.never rfl (pi_range1 (by rfl) m.range (pa_cons (pv 1) pa_nil)) (pg_name (i := 4) sc__law_draws.nd rfl (Or.inl rfl)) (pss_one (ps_if (PW.pt (pw_and (pt_cmpR op_ge (pv 0) (pe_op op_pow pe_int pe_int) (nomark _)) (pw_and1 (pt_cmpR op_gt (pv 3) pe_int (nomark _))))) (pss_cons (ps_expr (pe_bm PySem.F.plainAttrs_list PySem.F.slot_list_append PySem.F.type_list_append mt_append (pv 2) (pa_cons (pe_op op_mod (pe_callTy call_int1 (by rfl) m.int (by decide +kernel) (pa_cons (pv 3) pa_nil)) pe_int) pa_nil)))
        (pss_one (ps_set (i := 3) sc__law_draws.nd rfl (.inl rfl) (pe_op op_fdiv (pv 3) pe_int)))) (pss_cons (ps_set (i := 5) sc__law_draws.nd rfl (.inl rfl) (pe_op op_mod (pe_callTy call_int1 (by rfl) m.int (by decide +kernel) (pa_cons (pe_op (op_addK K rfl) (pe_op op_mul (pv 0) pe_int) (pe_op op_mul (pe_op (op_addK K rfl) (pv 4) pe_int) pe_int)) pa_nil)) pe_int))
        (pss_cons (ps_set (i := 5) sc__law_draws.nd rfl (.inl rfl) (pe_op op_mod (pe_callTy call_int1 (by rfl) m.int (by decide +kernel) (pa_cons (pe_op (op_addK K rfl) (pe_op (op_addK K rfl) (pe_op op_mul (pv 5) (pv 5)) (pe_op op_mul (pv 5) pe_int)) (pe_op op_mul (pv 4) pe_int)) pa_nil)) pe_int))
        (pss_cons (ps_set (i := 5) sc__law_draws.nd rfl (.inl rfl) (pe_op op_mod (pe_callTy call_int1 (by rfl) m.int (by decide +kernel) (pa_cons (pe_op (op_addK K rfl) (pe_op (op_addK K rfl) (pe_op op_mul (pv 5) (pv 5)) (pv 0)) (pe_op op_mul pe_int (pv 4))) pa_nil)) pe_int))
        (pss_one (ps_expr (pe_bm PySem.F.plainAttrs_list PySem.F.slot_list_append PySem.F.type_list_append mt_append (pv 2) (pa_cons (pe_op op_mod (pe_op op_fdiv (pv 5) pe_int) pe_int) pa_nil))))))))))
        (pss_one (ps_ret (pv 2)))))), fun ds d ⟨cell, h1, h2⟩ B => ?_⟩
  subst h1 h2
  try dsimp only [cxOf, Cx.nox, Cx.wish]
  change Run K B _ [.im (.int cell), .im (.int 20), .no, .no, .no, .no] _
  walk_at "setF"
  walk_at "set"
  refine run_seq (run_for_fold (rgI 0 20) .int (fun k => [(4, .int k)]) (its_rng1 (n := 20) (by walk_at "ev") (by omega)) (fun _ _ => tg_name)
    (fun st S' => ∃ e4 e5, S' = [.im (.int cell), .im (.int 20), .ow (st.1.map .int), .im (.int st.2), e4, e5]) (drawStep cell) ([], cell) ⟨_, _, rfl⟩ ?_ ?_ ?_)
  · rintro b k S' _ ⟨e4, e5, rfl⟩ p hp
    rw [List.mem_singleton.mp hp]
    exact Nat.le_of_ble_eq_true rfl
  · rintro i b k S' hk hb ⟨e4, e5, rfl⟩
    have hl : (b.1.map PyData.int).length < 100000 := by
      obtain ⟨q, _⟩ := drawFold_ok cell ((rgI 0 20).take i) ([], cell) (fun _ h => by cases h)
      rw [← hb] at q
      rw [List.length_map, q, List.length_take]
      simp [rgI_length]
      omega
    change Run K B _ [.im (.int cell), .im (.int 20), .ow (b.1.map .int), .im (.int b.2), .im (.int k), e5] _
    have hp : (10 : Int) ^ (18 : Int).toNat = 10 ^ 18 := rfl
    walk_at "if1"
    · intro h
      simp only [Bool.and_eq_true, decide_eq_true_eq, hp] at h
      apply run_seq
      walk_at "app"
      apply run_setR
      (focus walk_at "ev")
      all_goals (try walk_at "sd")
      have e : drawStep cell b k = (b.1 ++ [b.2 % 4096], b.2 / 4096) := if_pos h
      simp only [e, List.map_append, List.set]
      exact ⟨_, _, rfl⟩
    · intro h
      simp only [Bool.and_eq_false_iff, decide_eq_false_iff_not, hp] at h
      have h' : ¬ (10 ^ 18 ≤ cell ∧ 0 < b.2) := fun z => h.elim (fun y => y z.1) (fun y => y z.2)
      walk_at "set"
      walk_at "set"
      walk_at "set"
      walk_at "app"
      have e : drawStep cell b k = (b.1 ++ [blend cell k], b.2) := if_neg h'
      simp only [e, List.map_append, List.set]
      exact ⟨_, _, rfl⟩
  · rintro S' ⟨e4, e5, rfl⟩
    exact ret_O rfl

/-! _law_pool -/
theorem run_pool {B : Hp} {S : SS} {ms : List Int} {Q : VK} {nx bk ct : SS → Prop} (hs : S[1]? = some (.ow (ms.map .int)))
    (hq : ∀ (l r c : Addr) (H' : Hp), B l = none → B r = none → B c = none → l ≠ c → r ≠ c → Evl.Ex B H' → H' l = some (.lst [.ref r, .ref c]) → H' r = some (.lst (ms.map .int)) → H' c = some (.lst [.int 0]) → Q (.ref l) H') :
    Run K B (tRet (tLst (tCons (tVar 1) (tCons (tLst (tCons (tC (.int 0)) tNil)) tNil)))) S ⟨nx, Q, bk, ct⟩ := fun B' e D σ H sb nx rt bk ct => by
  have ex := sb.ex
  obtain ⟨Hm, A, eB, sa⟩ := sb
  obtain ⟨v, hv, ho⟩ := sa.own 1 _ hs (by intro z; cases z)
  obtain ⟨r, vs, rfl, hA, hr, hd⟩ := ho
  rw [DpAll.ints hd] at hr
  refine ⟨_, hv, by show 1 ≤ sizeLine; decide, fun c hc => ⟨by show 2 ≤ sizeLine; decide, fun l hl => ?_⟩⟩
  have e1 : Evl.Ex H (upd H c (.lst [.int 0])) := Evl.Ex.new hc
  have e2 : Evl.Ex (upd H c (.lst [.int 0])) (upd (upd H c (.lst [.int 0])) l (.lst [.ref r, .ref c])) := Evl.Ex.new hl
  have nlc : l ≠ c := fun z => by subst z; rw [upd_same] at hl; cases hl
  have nrc : r ≠ c := ne_of_none hr hc
  exact rt _ _ (hq l r c _ (Evl.fresh_back ((e.trans ex).trans e1) hl) (Evl.fresh_back (e.trans eB) (sa.out 1 r (by rw [hA]; simp))) (Evl.fresh_back (e.trans ex) hc) nlc nrc ((e.trans ex).trans (e1.trans e2)) upd_same (e2 _ _ (e1 _ _ hr)) (e2 _ _ upd_same))
theorem ok__law_pool {f : Addr} {fd : FuncData} (F : Fun K "_law_pool" "_law_pool" s__law_pool f fd) (m : Bl mg) (hu5 : True) (d__law_cell : DefOk P w K mg base "_law_cell" ["script", "k"] 1 (spR K frCell)) (d__law_draws : DefOk P w K mg base "_law_draws" ["cell", "amount"] 1 (spF K frDraws)) :
    FnOk P w K mg base CX0 2 f fd ["script"] (spPool K) := by
  refine F.ok sc__law_pool (fun vs H Q E h => ?_) (fun cdv A outer s H vs Q E hr h => ?_)
  · obtain ⟨ns, r, _⟩ := h
    rw [Paired.length r]
    rfl
  have hu5 : (A.deeper (envOfC "_law_pool" (defScope s__law_pool) s.heap.objs.size f cdv)).units + 65 < cLine := by
    have := hr.un
    omega
  refine ⟨_, (pss_cons (ps_set (i := 1) sc__law_pool.nd rfl (.inl rfl) (pe_lst pa_nil))
        (pss_cons (ps_for PassesOwn.never rfl (pi_range1 (by rfl) m.range (pa_cons (pe_callB (min_K K rfl rfl hu5) (by rfl) m.min (by decide +kernel) (pa_cons pe_int (pa_cons (pe_callB (call_max2 rfl) (by rfl) m.max (by decide +kernel) (pa_cons pe_int (pa_cons (pe_callB (len_K K rfl) (by rfl) m.len PySem.boot_len (pa_cons (pv 0) pa_nil)) pa_nil))) pa_nil))) pa_nil)) (pg_name (i := 2) sc__law_pool.nd rfl (Or.inl rfl)) (pss_one (ps_set (i := 1) sc__law_pool.nd rfl (.inl rfl) (pe_op (op_addK K rfl) (pv 1) (pe_callD d__law_draws (hr.mono (by decide)) (by rfl) (pa_cons (pe_op (op_addK K rfl) (pe_callD d__law_cell (hr.mono (by decide)) (by rfl) (pa_cons (pv 0) (pa_cons (pv 2) pa_nil))) (pe_op op_mul pe_int (pv 2))) (pa_cons pe_int pa_nil)))))))
        (pss_one (ps_ret (pe_lst (pa_cons (pv 1) (pa_cons (pe_lst (pa_cons pe_int pa_nil)) pa_nil))))))), ?_⟩
  obtain ⟨ns, r, hl, q⟩ := h
  try dsimp only [cxOf, Cx.nox, Cx.wish]
  suffices hrun : Run K H _ [.im (lI ns), .no, .no] ⟨fun _ => False, Q, fun _ => False, fun _ => False⟩ from
    hrun H (Evl.Ex.refl H) _ _ H (start_sb (N := ["script", "rows", "k"]) r) (fun _ _ _ _ z => z.elim) (fun _ _ z => z) (fun _ _ _ _ z => z.elim) (fun _ _ _ _ z => z.elim)
  have hN : 1 ≤ poolN (ns.length : Int) ∧ poolN (ns.length : Int) ≤ 4 := by
    unfold poolN
    split <;> split <;> omega
  walk_at "setF"
  refine run_seq (run_for (rgI 0 (poolN (ns.length : Int)).toNat) .int (fun k => [(2, .int k)]) (its_rng1 (n := poolN (ns.length : Int)) (by walk_at "ev") (by omega)) (fun _ _ => tg_name)
    (fun i S' => ∃ (ms : List Int) (e2 : Sl), S' = [.im (lI ns), .ow (ms.map .int), e2] ∧ ms.length = 20 * i ∧ ∀ x ∈ ms, 0 ≤ x ∧ x < (4096 : Int)) ⟨[], _, rfl, rfl, fun _ h => by cases h⟩ ?_ ?_ ?_)
  · rintro i k S' _ ⟨ms, e2, rfl, _⟩ p hp
    rw [List.mem_singleton.mp hp]
    exact Nat.le_of_ble_eq_true rfl
  · rintro i k S' hk ⟨ms, e2, rfl, h1, h2⟩
    have hi : i < (poolN (ns.length : Int)).toNat := by
      obtain ⟨z, _⟩ := List.getElem?_eq_some_iff.mp hk
      rwa [rgI_length] at z
    rw [rgI_get hi] at hk
    cases hk
    change Run K H _ [.im (lI ns), .ow (ms.map .int), .im (.int (0 + (i : Int)))] _
    obtain ⟨d1, d2⟩ := draws_ok (ns.getD (0 + (i : Int)).toNat 0 + 7 * (0 + (i : Int)))
    have hlen : (ms.map PyData.int).length + ((draws (ns.getD (0 + (i : Int)).toNat 0 + 7 * (0 + (i : Int)))).map PyData.int).length ≤ 100000 := by
      rw [List.length_map, List.length_map, h1, d1]
      omega
    apply run_cat
    · exact rfl
    · walk_at "ev"
      all_goals (try walk_at "sd")
    · exact noLs_ints _
    · exact hlen
    · refine ⟨ms ++ draws (ns.getD (0 + (i : Int)).toNat 0 + 7 * (0 + (i : Int))), _, by rw [List.map_append]; rfl, by rw [List.length_append, h1, d1]; omega, fun x hx => ?_⟩
      rcases List.mem_append.mp hx with hx | hx
      · exact h2 x hx
      · exact d2 x hx
  · rintro S' ⟨ms, e2, rfl, h1, h2⟩
    rw [rgI_length] at h1
    exact run_pool (ms := ms) rfl fun l r c H' a1 a2 b1 b2 b3 b4 b5 b6 b7 => q l r c ms H' a1 a2 b1 b2 b3 b4 b5 b6 b7 (by omega) (by omega) h2
/-! _law_pick -/
def okPick : List D → Prop := fun ds => ∃ n : Int, ds = [.int n] ∧ 0 < n
def frPick : List D → D → Prop := fun ds d => ∃ n i : Int, ds = [.int n] ∧ d = .int i ∧ 0 ≤ i ∧ i < n
theorem ok__law_pick {f : Addr} {fd : FuncData} (F : Fun K "_law_pick" "_law_pick" s__law_pick f fd) (m : Bl mg) : FnOk P w K mg base CX0 1 f fd ["pool", "amount"] (spX K okPick frPick 1) := by
  refine F.ok sc__law_pick (fun vs H Q E h => ?_) (fun cdv A outer s H vs Q E hr h => ?_)
  · obtain ⟨l, c, at', ws, ds, rfl, _, _, rr, ⟨n, rfl, _⟩, _⟩ := h
    obtain ⟨w1, rfl, _⟩ := rp1 rr
    rfl
  obtain ⟨l, c, at', ws, ds, rfl, ⟨r, ns, g1, g2, g3, ne1, ne2, g4, g6, g7, g8⟩, hm, rr, ⟨n, rfl, hn⟩, q⟩ := h
  obtain ⟨w1, rfl, r1⟩ := rp1 rr
  obtain rfl := r1.int
  refine ⟨_, (pss_cons (ps_set (i := 2) sc__law_pick.nd rfl (.inl rfl) (pe_ix (ix_K K rfl) (pe_ix (ix_K K rfl) (pv 0) pe_int (fun _ _ => rfl)) pe_int (fun _ _ => rfl)))
        (pss_cons (ps_asg (pe_op (op_addK K rfl) (pv 2) pe_int) (pg_sub (pe_ix (ix_K K rfl) (pv 0) pe_int (fun _ _ => rfl)) pe_int set_list))
        (pss_cons (ps_set (i := 3) sc__law_pick.nd rfl (.inl rfl) (pe_op op_fdiv (pv 2) (pe_callB (len_K K rfl) (by rfl) m.len PySem.boot_len (pa_cons (pe_ix (ix_K K rfl) (pv 0) pe_int (fun _ _ => rfl)) pa_nil))))
        (pss_one (ps_ret (pe_op op_mod (pe_callTy call_int1 (by rfl) m.int (by decide +kernel) (pa_cons (pe_op (op_addK K rfl) (pe_op (op_addK K rfl) (pe_ix (ix_K K rfl) (pe_ix (ix_K K rfl) (pv 0) pe_int (fun _ _ => rfl)) (pe_op op_mod (pv 2) (pe_callB (len_K K rfl) (by rfl) m.len PySem.boot_len (pa_cons (pe_ix (ix_K K rfl) (pv 0) pe_int (fun _ _ => rfl)) pa_nil))) (fun _ _ => rfl)) (pe_op op_mul (pv 3) pe_int)) (pe_op op_mul (pv 3) (pv 2))) pa_nil)) (pv 1))))))), ?_⟩
  try dsimp only [cxOf, Cx.nox, Cx.wish]
  -- at = pool[1][0]
  refine ⟨.ref l, rfl, .inl ⟨l, [.ref r, .ref c], 1, .ref c, rfl, rfl, SqL.of g1, rfl, .inl ⟨c, [.int at'], 0, .int at', rfl, rfl, SqL.of g3, rfl, ?_⟩⟩⟩
  -- pool[1][0] = at + 1
  refine ⟨.int at', rfl, .inl ⟨at', 1, rfl, rfl, ⟨.ref l, rfl, .inl ⟨l, [.ref r, .ref c], 1, .ref c, rfl, rfl, SqL.of g1, rfl, ⟨c, [.int at'], 0, 0, rfl, rfl, g3, rfl, ?_⟩⟩⟩⟩⟩
  generalize hH1 : upd H c (.lst (List.set [.int at'] 0 (.int (at' + 1)))) = H1
  have k1 : H1 l = some (.lst [.ref r, .ref c]) := by rw [← hH1, upd_ne ne1]; exact g1
  have k2 : H1 r = some (.lst (ns.map .int)) := by rw [← hH1, upd_ne ne2]; exact g2
  have k3 : H1 c = some (.lst [.int (at' + 1)]) := by rw [← hH1, upd_same]; rfl
  have k4 : ∀ a o, a ≠ c → H a = some o → H1 a = some o := fun a o h e => by rw [← hH1, upd_ne h]; exact e
  have hlen : (ns.map V.int).length = ns.length := List.length_map ..
  -- turn = at // len(pool[0])
  refine ⟨.int at', rfl, ⟨.ref l, rfl, .inl ⟨l, [.ref r, .ref c], 0, .ref r, rfl, rfl, SqL.of k1, rfl, ⟨r, ns.map .int, rfl, .inl (SqL.of k2), ⟨at', ((ns.map V.int).length : Int), rfl, rfl, ⟨by rw [hlen]; omega, by rw [hlen]; omega⟩, ?_⟩⟩⟩⟩⟩
  rw [hlen]
  have n0 : (0 : Int) < (ns.length : Int) := by omega
  have t0 : 0 ≤ at' / (ns.length : Int) := Int.ediv_nonneg g4 (Int.le_of_lt n0)
  have t1 : at' / (ns.length : Int) ≤ at' := Int.ediv_le_self _ g4
  have m0 := Int.emod_nonneg at' (Int.ne_of_gt n0)
  have m1 := Int.emod_lt_of_pos at' n0
  have hat : atI (ns.map V.int) (at' % (ns.length : Int)) = some (.int (ns.getD (at' % (ns.length : Int)).toNat 0)) := atI_map (atI_int 0 m0 m1)
  -- the drawn number
  refine ⟨.ref l, rfl, .inl ⟨l, [.ref r, .ref c], 0, .ref r, rfl, rfl, SqL.of k1, rfl, ⟨.int at', rfl, ⟨.ref l, rfl, .inl ⟨l, [.ref r, .ref c], 0, .ref r, rfl, rfl, SqL.of k1, rfl, ⟨r, ns.map .int, rfl, .inl (SqL.of k2), ⟨at', ((ns.map V.int).length : Int), rfl, rfl, by rw [hlen]; exact n0, ?_⟩⟩⟩⟩⟩⟩⟩
  rw [hlen]
  refine .inl ⟨r, ns.map .int, _, _, rfl, rfl, SqL.of k2, hat, ?_⟩
  refine ⟨_, rfl, _, _, rfl, rfl, .inr ⟨by decide, by decide⟩, .inl ⟨_, _, rfl, rfl, ⟨_, rfl, _, rfl, _, _, rfl, rfl, .inl ⟨by omega, by omega⟩, .inl ⟨_, _, rfl, rfl, .inl ⟨_, rfl, ⟨_, rfl, _, _, rfl, rfl, hn, ?_⟩⟩⟩⟩⟩⟩
  refine q _ _ H1 (at' + 1) ⟨n, _, rfl, rfl, Int.emod_nonneg _ (by omega), Int.emod_lt_of_pos _ hn⟩ rfl (.int _) k4 k3 (by omega) (by omega)

/-! is_whole -/
def frWhole : List D → D → Prop := fun ds d => ∃ i, ds = [.int i] ∧ d = .bool true
theorem ok_is_whole {f : Addr} {fd : FuncData} (F : Fun K "is_whole" "is_whole" s_is_whole f fd) (m : Bl mg) : FnOk P w K mg base CX0 1 f fd ["value"] (spR K frWhole) := by
  refine def_R F sc_is_whole frWhole (fun ds d ⟨i, h, _⟩ => by rw [h]; rfl) fun cdv A outer s H E hr => ⟨_, (pss_one (ps_ret (pe_and (pe_callB (isi_K K rfl) (by rfl) m.isinstance (by decide +kernel) (pa_cons (pv 0) (pa_cons (pe_bltn (v := .ty "int") (by rfl) m.int (by decide +kernel) rfl) pa_nil))) (pe_one (pe_not (pe_callB (isi_K K rfl) (by rfl) m.isinstance (by decide +kernel) (pa_cons (pv 0) (pa_cons (pe_bltn (v := .ty "bool") (by rfl) m.bool (by decide +kernel) rfl) pa_nil)))))))), fun ds d ⟨i, h1, h2⟩ B => ?_⟩
  subst h1 h2
  try dsimp only [cxOf, Cx.nox, Cx.wish]
  change Run K B _ [.im (.int i)] _
  walk_at "ret"
/-! is_from -/
def frFrom : List D → D → Prop := fun ds d => ∃ v lo hi : Int, ds = [.int v, .int lo, .int hi] ∧ d = .bool (decide (lo ≤ v) && decide (v ≤ hi))
theorem ok_is_from {f : Addr} {fd : FuncData} (F : Fun K "is_from" "is_from" s_is_from f fd) (m : Bl mg) (d_is_whole : DefOk P w K mg base "is_whole" ["value"] 1 (spR K frWhole)) : FnOk P w K mg base CX0 2 f fd ["value", "low", "high"] (spR K frFrom) := by
  refine def_R F sc_is_from frFrom (fun ds d ⟨_, _, _, h, _⟩ => by rw [h]; rfl) fun cdv A outer s H E hr => ⟨_, (pss_one (ps_ret (pe_and (pe_callD d_is_whole (hr.mono (by decide)) (by rfl) (pa_cons (pv 0) pa_nil)) (pe_one (pe_chain op_le op_le (pv 1) (pv 0) (pv 2)))))), fun ds d ⟨v, lo, hi, h1, h2⟩ B => ?_⟩
  subst h1 h2
  try dsimp only [cxOf, Cx.nox, Cx.wish]
  change Run K B _ [.im (.int v), .im (.int lo), .im (.int hi)] _
  walk_at "ret"
/-! is_named -/
def frNamed (n : Int) (y : Str) : List D → D → Prop := fun ds d => ∃ (x : Str) (rest : List D), ds = [.tuple (.str x :: rest), .str y, .int n] ∧ SeqAt.shaped (.str x) = true ∧ d = .bool (decide (((.str x :: rest : List D).length : Int) = n) && (x == y))
theorem ok_is_named {f : Addr} {fd : FuncData} (F : Fun K "is_named" "is_named" s_is_named f fd) (m : Bl mg) (m_str : mg "str" = none) : FnOk P w K mg base CX0 1 f fd ["value", "word", "size"] (spR K fun ds d => ∃ n y, SeqAt.shaped (.str y) = true ∧ frNamed n y ds d) := by
  refine def_R F sc_is_named _ (fun ds d ⟨_, _, _, _, _, h, _⟩ => by rw [h]; rfl) fun cdv A outer s H E hr => ⟨_, (pss_one (ps_ret (pe_and (pe_callB (isi_K K rfl) (by rfl) m.isinstance (by decide +kernel) (pa_cons (pv 0) (pa_cons (pe_bltn (v := .ty "tuple") (by rfl) m.tuple (by decide +kernel) rfl) pa_nil))) (pe_and (pe_cmpR (op_eqK K rfl hr.units) (pe_callB (len_K K rfl) (by rfl) m.len PySem.boot_len (pa_cons (pv 0) pa_nil)) (pv 2) (nomark _)) (pe_and (pe_callB (isi_K K rfl) (by rfl) m.isinstance (by decide +kernel) (pa_cons (pe_ix (ix_K K rfl) (pv 0) pe_int (fun _ _ => rfl)) (pa_cons (pe_bltn (v := .ty "str") (by rfl) m_str (by decide +kernel) rfl) pa_nil))) (pe_one (pe_cmpR (op_eqK K rfl hr.units) (pe_ix (ix_K K rfl) (pv 0) pe_int (fun _ _ => rfl)) (pv 1) (nomark _)))))))), fun ds d ⟨n, y, hy, x, rest, h1, hx, h2⟩ B => ?_⟩
  subst h1 h2
  try dsimp only [cxOf, Cx.nox, Cx.wish]
  change Run K B _ [.im (.tuple (.str x :: rest)), .im (.str y), .im (.int n)] _
  have h0 : atI (.str x :: rest : List D) 0 = some (.str x) := atI_nat (j := 0) rfl
  refine ret_R (EvR.to (KW.ev_and (b := true) (by walk_at "ev") fun _ => KW.ev_and (b := decide (((.str x :: rest : List D).length : Int) = n)) (by walk_at "ev") fun _ => KW.ev_and (b := true) (c := x == y) ?_ fun _ => ?_) ?_)
  · walk_at "ev"
    all_goals first | exact h0 | exact isi_str | exact rfl
  · refine ev_opR (ev_opR (ev_var rfl) ev_int (rv_ixT h0)) (ev_var rfl) (rv_eqS hx hy)
  · simp
/-! unlike -/
def insU (x : Int) : List Int → List Int
  | [] => [x]
  | y :: ys => if x < y then x :: y :: ys else if x = y then y :: ys else y :: insU x ys
def sortU : List Int → List Int
  | [] => []
  | x :: xs => insU x (sortU xs)
theorem mem_insU (x k : Int) : ∀ ys, k ∈ insU x ys ↔ k = x ∨ k ∈ ys
  | [] => by simp [insU]
  | y :: ys => by
    unfold insU
    split
    · simp
    · split
      · rename_i h; subst h; simp
      · simp only [List.mem_cons, mem_insU x k ys]
        constructor
        · rintro (h | h | h)
          · exact .inr (.inl h)
          · exact .inl h
          · exact .inr (.inr h)
        · rintro (h | h | h)
          · exact .inr (.inl h)
          · exact .inl h
          · exact .inr (.inr h)
theorem insU_up (x : Int) : ∀ ys : List Int, ys.Pairwise (· < ·) → (insU x ys).Pairwise (· < ·)
  | [], _ => by simp [insU]
  | y :: ys, h => by
    rw [List.pairwise_cons] at h
    unfold insU
    split
    · rename_i hx
      rw [List.pairwise_cons, List.pairwise_cons]
      refine ⟨fun z hz => ?_, h⟩
      rcases List.mem_cons.mp hz with hz | hz
      · omega
      · have := h.1 z hz; omega
    · split
      · rw [List.pairwise_cons]; exact h
      · rw [List.pairwise_cons]
        refine ⟨fun z hz => ?_, insU_up x ys h.2⟩
        rcases (mem_insU x z ys).mp hz with hz | hz
        · omega
        · exact h.1 z hz
theorem mem_sortU (k : Int) : ∀ xs, k ∈ sortU xs ↔ k ∈ xs
  | [] => by simp [sortU]
  | x :: xs => by rw [sortU, mem_insU, mem_sortU k xs, List.mem_cons]
theorem sortU_up : ∀ xs, (sortU xs).Pairwise (· < ·)
  | [] => List.Pairwise.nil
  | x :: xs => insU_up x _ (sortU_up xs)
def frUnlike : List D → List D → Prop := fun ds es => ∃ ns : List Int, ds = [lI ns] ∧ ns.length < 64 ∧ es = (sortU ns).map .int
theorem ok_unlike {f : Addr} {fd : FuncData} (F : Fun K "unlike" "unlike" s_unlike f fd) (m : Bl mg) : FnOk P w K mg base CX0 1 f fd ["items"] (spF K frUnlike) := by
  refine def_F F sc_unlike frUnlike (fun ds d ⟨_, h, _⟩ => by rw [h]; rfl) fun cdv A outer s H E hr => ⟨_, (pss_one (ps_ret (pe_callB (sortedSet_K (w := w) rfl rfl) (by rfl) m.sorted (by decide +kernel) (pa_cons (pe_callTy (setOf_K K (w := w) rfl rfl rfl) (by rfl) m.set (by decide +kernel) (pa_cons (pv 0) pa_nil)) pa_nil)))), fun ds d ⟨ns, h1, hl, h2⟩ B => ?_⟩
  subst h1 h2
  try dsimp only [cxOf, Cx.nox, Cx.wish]
  change Run K B _ [.im (lI ns)] _
  exact ret_F (ef_sortedSet (ev_var rfl) hl (sortU_up ns) fun k => mem_sortU k ns)
/-! common, _law_gcd -/
theorem gcd_step (a b : Int) (ha : 0 ≤ a) (hb : 0 < b) : Int.gcd b (a % b) = Int.gcd a b := by
  rw [Int.gcd_comm a b]
  have h : a % b = a - b * (a / b) := by have := Int.mul_ediv_add_emod a b; omega
  rw [h]
  have := Int.gcd_sub_mul_right_right b a (a / b)
  rw [← this, Int.mul_comm b (a / b)]
def frGcd : List D → D → Prop := fun ds d => ∃ a b : Int, ds = [.int a, .int b] ∧ d = .int (Int.gcd a b : Nat)
theorem abs_if (a : Int) : (if a < 0 then -a else a) = (a.natAbs : Int) := by split <;> omega
theorem ok_common {f : Addr} {fd : FuncData} (F : Fun K "common" "common" s_common f fd) (m : Bl mg) : FnOk P w K mg base CX0 1 f fd ["a", "b"] (spR K frGcd) := by
  refine def_R F sc_common frGcd (fun ds d ⟨_, _, h, _⟩ => by rw [h]; rfl) fun cdv A outer s H E hr => ⟨_, (pss_cons (ps_par (i := 0) (j := 1) rfl sc_common.nd rfl rfl (by decide) rfl rfl (pa_cons (pe_callB call_abs (by rfl) m.abs (by decide +kernel) (pa_cons (pv 0) pa_nil)) (pa_cons (pe_callB call_abs (by rfl) m.abs (by decide +kernel) (pa_cons (pv 1) pa_nil)) pa_nil)) (by rfl))
        (pss_cons (ps_while PassesOwn.never (pt_cmpR op_gt (pv 1) pe_int (nomark _)) (pss_one (ps_par (i := 0) (j := 1) rfl sc_common.nd rfl rfl (by decide) rfl rfl (pa_cons (pv 1) (pa_cons (pe_op op_mod (pv 0) (pv 1)) pa_nil)) (by rfl))))
        (pss_one (ps_ret (pv 0))))), fun ds d ⟨a, b, h1, h2⟩ B => ?_⟩
  subst h1 h2
  try dsimp only [cxOf, Cx.nox, Cx.wish]
  change Run K B _ [.im (.int a), .im (.int b)] _
  apply run_seq
  apply run_parRR
  · walk_at "ev"
  · walk_at "ev"
  · exact rfl
  · exact rfl
  · exact Nat.le_of_ble_eq_true rfl
  · exact Nat.le_of_ble_eq_true rfl
  rw [abs_if, abs_if]
  refine run_seq (run_while (fun m S' => ∃ x y : Int, S' = [.im (.int x), .im (.int y)] ∧ 0 ≤ x ∧ 0 ≤ y ∧ Int.gcd x y = Int.gcd a b ∧ m = y.toNat) _ ⟨_, _, rfl, by omega, by omega, by simp [Int.gcd], rfl⟩ ?_)
  rintro n S' ⟨x, y, rfl, hx, hy, hg, rfl⟩
  refine ⟨decide (0 < y), by walk_at "ev", fun h => ?_, fun h => ?_⟩
  · have h := of_decide_eq_true h
    apply run_parRR
    · walk_at "ev"
    · walk_at "ev"
      exact h
    · exact rfl
    · exact rfl
    · exact Nat.le_of_ble_eq_true rfl
    · exact Nat.le_of_ble_eq_true rfl
    · have h1 := Int.emod_nonneg x (Int.ne_of_gt h)
      have h2 := Int.emod_lt_of_pos x h
      exact ⟨_, by omega, _, _, rfl, hy, h1, by rw [gcd_step x y hx h]; exact hg, rfl⟩
  · have h := of_decide_eq_false h
    have : y = 0 := by omega
    subst this
    walk_at "ret"
    rw [← hg]
    simp only [Int.gcd_zero_right]
    congr 1
    omega
end
end K70

set_option Elab.async false
set_option linter.all false
set_option maxRecDepth 100000
set_option maxHeartbeats 8000000
namespace K70
open PySem PySem.Spec PyProof.Rows L2 KW
local macro_rules | `(tactic| walk_at "ev") => `(tactic| repeat' (first
  | with_reducible exact ev_int | with_reducible exact ev_str | with_reducible exact ev_bool | with_reducible exact ev_none
  | ((with_reducible apply ev_var); exact rfl)
  | with_reducible exact rv_add | with_reducible exact rv_sub | with_reducible exact rv_lt | with_reducible exact rv_le | with_reducible exact rv_gt | with_reducible exact rv_ge
  | with_reducible exact rv_eqI | with_reducible exact rv_neI | with_reducible exact rv_eqB | with_reducible exact rv_neB | with_reducible exact rv_eqT | with_reducible exact rv_neT | with_reducible exact rv_eqLI | with_reducible exact rv_neLI
  | with_reducible exact rv_isB | with_reducible exact rv_notB | with_reducible exact rv_inLI | with_reducible exact rv_inTI | with_reducible exact rv_niLI | with_reducible exact rv_niTI
  | ((with_reducible apply rv_eqS) <;> decide +kernel) | ((with_reducible apply rv_neS) <;> decide +kernel)
  | with_reducible apply rv_mul | with_reducible apply rv_mod | with_reducible apply rv_fdiv | with_reducible apply rv_pow | with_reducible apply rv_ixTI | with_reducible apply rv_ixLI | with_reducible apply rv_ixT | with_reducible apply rv_ixL | with_reducible apply rv_addT
  | with_reducible exact ru_neg
  | with_reducible exact rc_abs | with_reducible exact rc_max | with_reducible exact rc_min | with_reducible exact rc_minT | with_reducible exact rc_intI | with_reducible exact rc_intB | with_reducible exact rc_lenTI | with_reducible exact rc_lenLI | with_reducible exact rc_lenT | with_reducible exact rc_lenL | with_reducible exact rc_tupL | with_reducible exact rc_tupT | with_reducible exact rc_sum | with_reducible exact rc_all
  | with_reducible apply ev_opR
  | with_reducible apply ev_isiR
  | with_reducible exact isi_int | with_reducible exact isi_int_bool | with_reducible exact isi_tup | with_reducible exact isi_str
  | with_reducible apply ev_cbR
  | with_reducible apply KW.ev_un
  | with_reducible apply ev_tupR
  | ((with_reducible show okT _ = true); exact rfl)
  | with_reducible apply ev_revD
  | with_reducible exact RevD.lst _ | with_reducible exact RevD.tup _
  | with_reducible apply ev_slD
  | with_reducible exact SlD.lst _ | with_reducible exact SlD.tup _
  | with_reducible apply ef_lstR
  | with_reducible apply KW.ef_call
  | with_reducible apply KW.ef_addX_L
  | with_reducible apply KW.ef_listRg1 | with_reducible apply KW.ev_tupRg1 | with_reducible apply KW.ev_tupRg2
  | with_reducible apply ep_some
  | with_reducible exact ep_none
  | with_reducible apply KW.eb_test
  | with_reducible apply KW.eb_B
  | with_reducible apply KW.eb_not
  | with_reducible apply KW.ev_not
  | with_reducible exact eas_nil
  | with_reducible apply eas_cons
  | with_reducible apply KW.eb_and
  | with_reducible apply KW.eb_or
  | with_reducible apply KW.ev_and
  | with_reducible apply KW.ev_or
  | with_reducible apply KW.ev_chain
  | with_reducible apply KW.ev_call | with_reducible apply KW.ev_callF
  | walk_at "fr"
  | with_reducible refine fun (_ : _ = true) => ?_
  | with_reducible refine fun (_ : _ = false) => ?_))
local macro_rules | `(tactic| walk_at "sd") => `(tactic| first
  | assumption | omega | exact rfl | exact noL_tI _ | exact noLs_ints _ | exact Nat.le_of_ble_eq_true rfl
  | (refine Or.inl ⟨?_, ?_⟩ <;> omega) | (refine Or.inr ⟨?_, ?_⟩ <;> omega) | (refine And.intro ?_ ?_ <;> omega) | exact ⟨by omega, by omega, by decide⟩
  | exact ⟨_, _, rfl, rfl⟩)
local macro_rules | `(tactic| walk_at "set") => `(tactic| (apply run_seq; apply run_setR; (focus walk_at "ev"); all_goals (try walk_at "sd"); try dsimp only [List.set]))
local macro_rules | `(tactic| walk_at "setF") => `(tactic| (apply run_seq; apply run_setF; (focus walk_at "ev"); all_goals (try walk_at "sd"); try dsimp only [List.set]))
local macro_rules | `(tactic| walk_at "if") => `(tactic| (apply run_seq; apply run_if; (focus walk_at "ev"); all_goals (try walk_at "sd")))
local macro_rules | `(tactic| walk_at "if1") => `(tactic| (apply run_if; (focus walk_at "ev"); all_goals (try walk_at "sd")))
local macro_rules | `(tactic| walk_at "ret") => `(tactic| (apply ret_R; apply EvR.to; (focus walk_at "ev"); all_goals (try walk_at "sd")))
local macro_rules | `(tactic| walk_at "app") => `(tactic| (apply run_app; exact rfl; (focus walk_at "ev"); all_goals (try walk_at "sd"); try dsimp only [List.set]))
local macro_rules | `(tactic| walk_at "fr") => `(tactic| first | exact ⟨_, _, rfl, by omega, rfl⟩ | exact ⟨_, rfl, rfl⟩ | exact ⟨_, _, rfl, rfl⟩ | exact ⟨_, _, _, rfl, rfl⟩)

section
variable {P : Program} {w : World} {K : PySem.W.Frag} {mg : Str → Option Value} {base : Heap}
theorem ok__law_gcd {f : Addr} {fd : FuncData} (F : Fun K "_law_gcd" "_law_gcd" s__law_gcd f fd) (m : Bl mg) : FnOk P w K mg base CX0 1 f fd ["a", "b"] (spR K frGcd) := by
  refine def_R F sc__law_gcd frGcd (fun ds d ⟨_, _, h, _⟩ => by rw [h]; rfl) fun cdv A outer s H E hr => ⟨_, (pss_cons (ps_par (i := 0) (j := 1) rfl sc__law_gcd.nd rfl rfl (by decide) rfl rfl (pa_cons (pe_callB call_abs (by rfl) m.abs (by decide +kernel) (pa_cons (pv 0) pa_nil)) (pa_cons (pe_callB call_abs (by rfl) m.abs (by decide +kernel) (pa_cons (pv 1) pa_nil)) pa_nil)) (by rfl))
        (pss_cons (ps_while PassesOwn.never (pt_cmpR (op_neK K rfl hr.units) (pv 1) pe_int (nomark _)) (pss_one (ps_par (i := 0) (j := 1) rfl sc__law_gcd.nd rfl rfl (by decide) rfl rfl (pa_cons (pv 1) (pa_cons (pe_op op_mod (pe_callTy call_int1 (by rfl) m.int (by decide +kernel) (pa_cons (pv 0) pa_nil)) (pv 1)) pa_nil)) (by rfl))))
        (pss_one (ps_ret (pv 0))))), fun ds d ⟨a, b, h1, h2⟩ B => ?_⟩
  subst h1 h2
  try dsimp only [cxOf, Cx.nox, Cx.wish]
  change Run K B _ [.im (.int a), .im (.int b)] _
  apply run_seq
  apply run_parRR
  · walk_at "ev"
  · walk_at "ev"
  · exact rfl
  · exact rfl
  · exact Nat.le_of_ble_eq_true rfl
  · exact Nat.le_of_ble_eq_true rfl
  rw [abs_if, abs_if]
  refine run_seq (run_while (fun m S' => ∃ x y : Int, S' = [.im (.int x), .im (.int y)] ∧ 0 ≤ x ∧ 0 ≤ y ∧ Int.gcd x y = Int.gcd a b ∧ m = y.toNat) _ ⟨_, _, rfl, by omega, by omega, by simp [Int.gcd], rfl⟩ ?_)
  rintro n S' ⟨x, y, rfl, hx, hy, hg, rfl⟩
  refine ⟨!decide (y = 0), by walk_at "ev", fun h => ?_, fun h => ?_⟩
  · have h : 0 < y := by
      have : ¬ y = 0 := by simpa using h
      omega
    apply run_parRR
    · walk_at "ev"
    · walk_at "ev"
      exact h
    · exact rfl
    · exact rfl
    · exact Nat.le_of_ble_eq_true rfl
    · exact Nat.le_of_ble_eq_true rfl
    · have h1 := Int.emod_nonneg x (Int.ne_of_gt h)
      have h2 := Int.emod_lt_of_pos x h
      exact ⟨_, by omega, _, _, rfl, hy, h1, by rw [gcd_step x y hx h]; exact hg, rfl⟩
  · have : y = 0 := by simpa using h
    subst this
    walk_at "ret"
    rw [← hg]
    simp only [Int.gcd_zero_right]
    congr 1
    omega
/-! inverse -/
def invs (q p : Int) : List Int := (rgI 0 p.toNat).filter fun x => decide ((x * q - 1) % p = 0)
def inv (q p : Int) : Int := (invs q p).headD 0
def frInv : List D → D → Prop := fun ds d => ∃ q p : Int, ds = [.int q, .int p] ∧ (0 < p ∧ p ≤ 1000 ∧ invs q p ≠ []) ∧ d = .int (inv q p)
theorem ok_inverse {f : Addr} {fd : FuncData} (F : Fun K "inverse" "inverse" s_inverse f fd) (m : Bl mg) : FnOk P w K mg base CX0 1 f fd ["q", "p"] (spR K frInv) := by
  refine def_R F sc_inverse frInv (fun ds d ⟨_, _, h, _⟩ => by rw [h]; rfl) fun cdv A outer s H E hr => ⟨_, (pss_one (ps_ret (pe_ix (ix_K K rfl) (pe_lc (own := [("x", 2)]) rfl sc_inverse.nd (pi_range1 (by rfl) m.range (pa_cons (pv 1) pa_nil)) (blkOk_by (N := ["q", "p", "x"]) (sc := defScope s_inverse) (by decide +kernel)) (fun _ _ _ _ _ => (pg_name (i := 2) sc_inverse.nd rfl (Or.inl rfl))) (fun _ _ _ _ _ => (pts_one (pt_cmpR (op_eqK K rfl hr.units) (pe_op op_mod (pe_op op_sub (pe_op op_mul (pv 2) (pv 0)) pe_int) (pv 1)) pe_int (nomark _)))) (fun _ _ _ _ _ => (pv 2))) pe_int (fun _ _ => rfl)))), fun ds d ⟨q, p, h1, ⟨hp, hp2, hi⟩, h2⟩ B => ?_⟩
  subst h1 h2
  try dsimp only [cxOf, Cx.nox, Cx.wish]
  change Run K B _ [.im (.int q), .im (.int p), .no] _
  obtain ⟨x, rest, hx⟩ : ∃ x rest, invs q p = x :: rest := by
    cases h : invs q p with
    | nil => exact absurd h hi
    | cons x rest => exact ⟨x, rest, rfl⟩
  refine ret_R (EvR.to (d := .int (inv q p)) (ev_opR (EvF.r (ef_lc (rgI 0 p.toNat) .int (fun x => [(2, .int x)]) (fun x => decide ((x * q - 1) % p = 0)) .int (it_rng1 (n := p) (by walk_at "ev") (by omega)) (fun _ _ => tg_name) (fun _ _ p hp => by
      rw [List.mem_singleton.mp hp]; simp) (fun a ha => ?_) (fun a ha _ => em_R rfl (by walk_at "ev")) (by rw [rgI_length]; omega))) ev_int (rv_ixL ?_)) rfl)
  · have := mem_rgI.mp ha
    walk_at "ev"
    · exact .inl ⟨by omega, by omega⟩
    · exact hp
  · show atI ((invs q p).map PyData.int) 0 = _
    unfold inv
    rw [hx]
    exact atI_nat (j := 0) rfl
/-! bridge_paper -/
def kindOf (p q o : Int) : Int := if (q - o) % p = 0 then 0 else if (inv q p - o) % p = 0 then 1 else 2
def toldOf (k : Int) : D := if k = 0 then .tuple [.str "same", .int 0] else if k = 1 then .tuple [.str "same", .int 1] else .tuple [.str "unlike"]
def frBridge : List D → D → Prop := fun ds d => ∃ p q o : Int, ds = [.int p, .int q, .int o] ∧ (0 < p ∧ p ≤ 1000 ∧ invs q p ≠ []) ∧ d = toldOf (kindOf p q o)
theorem ok_bridge_paper {f : Addr} {fd : FuncData} (F : Fun K "bridge_paper" "bridge_paper" s_bridge_paper f fd) (m : Bl mg) (d_inverse : DefOk P w K mg base "inverse" ["q", "p"] 1 (spR K frInv)) : FnOk P w K mg base CX0 2 f fd ["p", "q", "other"] (spR K frBridge) := by
  refine def_R F sc_bridge_paper frBridge (fun ds d ⟨_, _, _, h, _⟩ => by rw [h]; rfl) fun cdv A outer s H E hr => ⟨_, (pss_cons (ps_for PassesOwn.never rfl (seq_K K rfl (pe_tup (pa_cons pe_int (pa_cons pe_int pa_nil)))) (pg_name (i := 3) sc_bridge_paper.nd rfl (Or.inl rfl)) (pss_cons (ps_set (i := 4) sc_bridge_paper.nd rfl (.inl rfl) (pe_ifExp (pt_cmpR (op_eqK K rfl hr.units) (pv 3) pe_int (nomark _)) (pv 1) (pe_callD d_inverse (hr.mono (by decide)) (by rfl) (pa_cons (pv 1) (pa_cons (pv 0) pa_nil)))))
        (pss_one (ps_if (pt_cmpR (op_eqK K rfl hr.units) (pe_op op_mod (pe_op op_sub (pv 4) (pv 2)) (pv 0)) pe_int (nomark _)) (pss_one (ps_ret (pe_tup (pa_cons pe_str (pa_cons (pv 3) pa_nil))))) pss_nil))))
        (pss_one (ps_ret (pe_tup (pa_cons pe_str pa_nil))))), fun ds d ⟨p, q, o, h1, ⟨hp, hp2, hi⟩, h2⟩ B => ?_⟩
  subst h1 h2
  try dsimp only [cxOf, Cx.nox, Cx.wish]
  change Run K B _ [.im (.int p), .im (.int q), .im (.int o), .no, .no] _
  refine run_seq (run_for [(0 : Int), 1] .int (fun k => [(3, .int k)]) (its_seqT (ds := [.int 0, .int 1]) (by walk_at "ev") rfl) (fun _ _ => tg_name)
    (fun i S' => ∃ e3 e4, S' = [.im (.int p), .im (.int q), .im (.int o), e3, e4] ∧ (0 < i → ¬ (q - o) % p = 0) ∧ (1 < i → ¬ (inv q p - o) % p = 0)) ⟨_, _, rfl, by omega, by omega⟩ ?_ ?_ ?_)
  · rintro i k S' _ ⟨e3, e4, rfl, _⟩ z hz
    rw [List.mem_singleton.mp hz]
    exact Nat.le_of_ble_eq_true rfl
  · rintro i k S' hk ⟨e3, e4, rfl, j1, j2⟩
    change Run K B _ [.im (.int p), .im (.int q), .im (.int o), .im (.int k), e4] _
    have hik : (i = 0 ∧ k = 0) ∨ (i = 1 ∧ k = 1) := by
      rcases i with _ | _ | i
      · simp at hk; exact .inl ⟨rfl, hk.symm⟩
      · simp at hk; exact .inr ⟨rfl, hk.symm⟩
      · simp at hk
    rcases hik with ⟨rfl, rfl⟩ | ⟨rfl, rfl⟩
    · refine run_seq (run_setR (d := .int q) (ev_if (b := true) (EvB.to (b := decide ((0 : Int) = 0)) (by walk_at "ev") rfl) (fun _ => by walk_at "ev") (fun z => by cases z)) rfl (Nat.le_of_ble_eq_true rfl) ?_)
      dsimp only [List.set]
      refine run_if (b := decide ((q - o) % p = 0)) (by walk_at "ev"; exact hp) (fun h => ?_) (fun h => ?_)
      · have h := of_decide_eq_true h
        walk_at "ret"
        rw [kindOf, if_pos h]
        rfl
      · exact run_nx ⟨_, _, rfl, fun _ => of_decide_eq_false h, by omega⟩
    · have j1 := j1 (by omega)
      refine run_seq (run_setR (d := .int (inv q p)) (ev_if (b := false) (EvB.to (b := decide ((1 : Int) = 0)) (by walk_at "ev") rfl) (fun z => by cases z) (fun _ => ev_call (by walk_at "ev") ⟨q, p, rfl, ⟨hp, hp2, hi⟩, rfl⟩)) rfl (Nat.le_of_ble_eq_true rfl) ?_)
      dsimp only [List.set]
      refine run_if (b := decide ((inv q p - o) % p = 0)) (by walk_at "ev"; exact hp) (fun h => ?_) (fun h => ?_)
      · have h := of_decide_eq_true h
        walk_at "ret"
        rw [kindOf, if_neg j1, if_pos h]
        rfl
      · exact run_nx ⟨_, _, rfl, fun _ => j1, fun _ => of_decide_eq_false h⟩
  · rintro S' ⟨e3, e4, rfl, j1, j2⟩
    walk_at "ret"
    rw [kindOf, if_neg (j1 (by decide)), if_neg (j2 (by decide))]
    rfl
end
end K70

set_option Elab.async false
set_option linter.all false
set_option maxRecDepth 100000
set_option maxHeartbeats 8000000
namespace K70
open PySem PySem.Spec PyProof.Rows L2 KW
local macro_rules | `(tactic| walk_at "ev") => `(tactic| repeat' (first
  | with_reducible exact ev_int | with_reducible exact ev_str | with_reducible exact ev_bool | with_reducible exact ev_none
  | ((with_reducible apply ev_var); exact rfl)
  | with_reducible exact rv_add | with_reducible exact rv_sub | with_reducible exact rv_lt | with_reducible exact rv_le | with_reducible exact rv_gt | with_reducible exact rv_ge
  | with_reducible exact rv_eqI | with_reducible exact rv_neI | with_reducible exact rv_eqB | with_reducible exact rv_neB | with_reducible exact rv_eqT | with_reducible exact rv_neT | with_reducible exact rv_eqLI | with_reducible exact rv_neLI
  | with_reducible exact rv_isB | with_reducible exact rv_notB | with_reducible exact rv_inLI | with_reducible exact rv_inTI | with_reducible exact rv_niLI | with_reducible exact rv_niTI
  | ((with_reducible apply rv_eqS) <;> decide +kernel) | ((with_reducible apply rv_neS) <;> decide +kernel)
  | with_reducible apply rv_mul | with_reducible apply rv_mod | with_reducible apply rv_fdiv | with_reducible apply rv_pow | with_reducible apply rv_ixTI | with_reducible apply rv_ixLI | with_reducible apply rv_ixT | with_reducible apply rv_ixL | with_reducible apply rv_addT
  | with_reducible exact ru_neg
  | with_reducible exact rc_abs | with_reducible exact rc_max | with_reducible exact rc_min | with_reducible exact rc_minT | with_reducible exact rc_intI | with_reducible exact rc_intB | with_reducible exact rc_lenTI | with_reducible exact rc_lenLI | with_reducible exact rc_lenT | with_reducible exact rc_lenL | with_reducible exact rc_tupL | with_reducible exact rc_tupT | with_reducible exact rc_sum | with_reducible exact rc_all
  | with_reducible apply ev_opR
  | with_reducible apply ev_isiR
  | with_reducible exact isi_int | with_reducible exact isi_int_bool | with_reducible exact isi_tup | with_reducible exact isi_str
  | with_reducible apply ev_cbR
  | with_reducible apply KW.ev_un
  | with_reducible apply ev_tupR
  | ((with_reducible show okT _ = true); exact rfl)
  | with_reducible apply ev_revD
  | with_reducible exact RevD.lst _ | with_reducible exact RevD.tup _
  | with_reducible apply ev_slD
  | with_reducible exact SlD.lst _ | with_reducible exact SlD.tup _
  | with_reducible apply ef_lstR
  | with_reducible apply KW.ef_call
  | with_reducible apply KW.ef_addX_L
  | with_reducible apply KW.ef_listRg1 | with_reducible apply KW.ev_tupRg1 | with_reducible apply KW.ev_tupRg2
  | with_reducible apply ep_some
  | with_reducible exact ep_none
  | with_reducible apply KW.eb_test
  | with_reducible apply KW.eb_B
  | with_reducible apply KW.eb_not
  | with_reducible apply KW.ev_not
  | with_reducible exact eas_nil
  | with_reducible apply eas_cons
  | with_reducible apply KW.eb_and
  | with_reducible apply KW.eb_or
  | with_reducible apply KW.ev_and
  | with_reducible apply KW.ev_or
  | with_reducible apply KW.ev_chain
  | with_reducible apply KW.ev_call | with_reducible apply KW.ev_callF
  | walk_at "fr"
  | with_reducible refine fun (_ : _ = true) => ?_
  | with_reducible refine fun (_ : _ = false) => ?_))
local macro_rules | `(tactic| walk_at "sd") => `(tactic| first
  | assumption | omega | exact rfl | exact noL_tI _ | exact noLs_ints _ | exact Nat.le_of_ble_eq_true rfl
  | (refine Or.inl ⟨?_, ?_⟩ <;> omega) | (refine Or.inr ⟨?_, ?_⟩ <;> omega) | (refine And.intro ?_ ?_ <;> omega) | exact ⟨by omega, by omega, by decide⟩
  | exact ⟨_, _, rfl, rfl⟩)
local macro_rules | `(tactic| walk_at "set") => `(tactic| (apply run_seq; apply run_setR; (focus walk_at "ev"); all_goals (try walk_at "sd"); try dsimp only [List.set]))
local macro_rules | `(tactic| walk_at "setF") => `(tactic| (apply run_seq; apply run_setF; (focus walk_at "ev"); all_goals (try walk_at "sd"); try dsimp only [List.set]))
local macro_rules | `(tactic| walk_at "if") => `(tactic| (apply run_seq; apply run_if; (focus walk_at "ev"); all_goals (try walk_at "sd")))
local macro_rules | `(tactic| walk_at "if1") => `(tactic| (apply run_if; (focus walk_at "ev"); all_goals (try walk_at "sd")))
local macro_rules | `(tactic| walk_at "ret") => `(tactic| (apply ret_R; apply EvR.to; (focus walk_at "ev"); all_goals (try walk_at "sd")))
local macro_rules | `(tactic| walk_at "app") => `(tactic| (apply run_app; exact rfl; (focus walk_at "ev"); all_goals (try walk_at "sd"); try dsimp only [List.set]))
local macro_rules | `(tactic| walk_at "fr") => `(tactic| first | exact ⟨_, _, rfl, by omega, rfl⟩ | exact ⟨_, rfl, rfl⟩ | exact ⟨_, _, rfl, rfl⟩ | exact ⟨_, _, _, rfl, rfl⟩)

section
variable {P : Program} {w : World} {K : PySem.W.Frag} {mg : Str → Option Value} {base : Heap}
/-! check_bridge -/
abbrev frNamedX : List D → D → Prop := fun ds d => ∃ n y, SeqAt.shaped (.str y) = true ∧ frNamed n y ds d
def checkB (p q o k : Int) : Bool := if k = 0 then decide ((q - o) % p = 0) else if k = 1 then decide ((q * o - 1) % p = 0) else !decide ((q - o) % p = 0) && !decide ((q * o - 1) % p = 0)
def frCheck : List D → D → Prop := fun ds d => ∃ p q o k : Int, ds = [.int p, .int q, .int o, toldOf k] ∧ (0 < p ∧ -1000 ≤ q ∧ q ≤ 1000 ∧ (k = 0 ∨ k = 1 ∨ k = 2)) ∧ d = .bool (checkB p q o k)
theorem sh_same : SeqAt.shaped (.str "same") = true := by decide +kernel
theorem sh_unlike : SeqAt.shaped (.str "unlike") = true := by decide +kernel
theorem ok_check_bridge {f : Addr} {fd : FuncData} (F : Fun K "check_bridge" "check_bridge" s_check_bridge f fd) (m : Bl mg) (d_is_named : DefOk P w K mg base "is_named" ["value", "word", "size"] 1 (spR K frNamedX)) (d_is_from : DefOk P w K mg base "is_from" ["value", "low", "high"] 2 (spR K frFrom)) :
    FnOk P w K mg base CX0 3 f fd ["p", "q", "other", "value"] (spR K frCheck) := by
  refine def_R F sc_check_bridge frCheck (fun ds d ⟨_, _, _, _, h, _⟩ => by rw [h]; rfl) fun cdv A outer s H E hr => ⟨_, (pss_cons (ps_if (pt_val (pe_callD d_is_named (hr.mono (by decide)) (by rfl) (pa_cons (pv 3) (pa_cons pe_str (pa_cons pe_int pa_nil))))) (pss_one (ps_ret (pe_and (pe_cmpR (op_neK K rfl hr.units) (pe_op op_mod (pe_op op_sub (pv 1) (pv 2)) (pv 0)) pe_int (nomark _)) (pe_one (pe_cmpR (op_neK K rfl hr.units) (pe_op op_mod (pe_op op_sub (pe_op op_mul (pv 1) (pv 2)) pe_int) (pv 0)) pe_int (nomark _)))))) pss_nil)
        (pss_cons (ps_if (PW.pt (pw_or (pt_not (pt_val (pe_callD d_is_named (hr.mono (by decide)) (by rfl) (pa_cons (pv 3) (pa_cons pe_str (pa_cons pe_int pa_nil)))))) (pw_or1 (pt_not (pt_val (pe_callD d_is_from (hr.mono (by decide)) (by rfl) (pa_cons (pe_ix (ix_K K rfl) (pv 3) pe_int (fun _ _ => rfl)) (pa_cons pe_int (pa_cons pe_int pa_nil))))))))) (pss_one (ps_ret pe_bl)) pss_nil)
        (pss_one (ps_ret (pe_ifExp (pt_cmpR (op_eqK K rfl hr.units) (pe_ix (ix_K K rfl) (pv 3) pe_int (fun _ _ => rfl)) pe_int (nomark _)) (pe_cmpR (op_eqK K rfl hr.units) (pe_op op_mod (pe_op op_sub (pv 1) (pv 2)) (pv 0)) pe_int (nomark _)) (pe_cmpR (op_eqK K rfl hr.units) (pe_op op_mod (pe_op op_sub (pe_op op_mul (pv 1) (pv 2)) pe_int) (pv 0)) pe_int (nomark _))))))), fun ds d ⟨p, q, o, k, h1, ⟨hp, hq1, hq2, hk⟩, h2⟩ B => ?_⟩
  subst h1 h2
  try dsimp only [cxOf, Cx.nox, Cx.wish]
  have hm : CMul q o := .inl ⟨by omega, by omega⟩
  rcases hk with rfl | rfl | rfl
  · change Run K B _ [.im (.int p), .im (.int q), .im (.int o), .im (.tuple [.str "same", .int 0])] _
    refine run_seq (run_if (b := false) (EvB.to (KW.eb_B (ev_call (by walk_at "ev") ⟨1, _, sh_unlike, _, _, rfl, sh_same, rfl⟩)) (by decide +kernel)) (fun z => by cases z) fun _ => run_nx ?_)
    refine run_seq (run_if (b := false) (KW.eb_or (b := false) (c := false) (KW.eb_not (b := true) (EvB.to (KW.eb_B (ev_call (by walk_at "ev") ⟨2, _, sh_same, _, _, rfl, sh_same, rfl⟩)) (by decide +kernel)))
      fun _ => KW.eb_not (b := true) (KW.eb_B (EvR.to (ev_call (ds := [.int 0, .int 0, .int 1]) (by walk_at "ev"; exact atI_nat (j := 1) rfl) ⟨0, 0, 1, rfl, rfl⟩) rfl))) (fun z => by cases z) fun _ => run_nx ?_)
    exact ret_R (EvR.to (ev_if (b := true) (d := .bool (decide ((q - o) % p = 0))) (EvB.to (b := decide ((0 : Int) = 0)) (by walk_at "ev"; exact atI_nat (j := 1) rfl) rfl) (fun _ => by walk_at "ev"; exact hp) (fun z => by cases z)) rfl)
  · change Run K B _ [.im (.int p), .im (.int q), .im (.int o), .im (.tuple [.str "same", .int 1])] _
    refine run_seq (run_if (b := false) (EvB.to (KW.eb_B (ev_call (by walk_at "ev") ⟨1, _, sh_unlike, _, _, rfl, sh_same, rfl⟩)) (by decide +kernel)) (fun z => by cases z) fun _ => run_nx ?_)
    refine run_seq (run_if (b := false) (KW.eb_or (b := false) (c := false) (KW.eb_not (b := true) (EvB.to (KW.eb_B (ev_call (by walk_at "ev") ⟨2, _, sh_same, _, _, rfl, sh_same, rfl⟩)) (by decide +kernel)))
      fun _ => KW.eb_not (b := true) (KW.eb_B (EvR.to (ev_call (ds := [.int 1, .int 0, .int 1]) (by walk_at "ev"; exact atI_nat (j := 1) rfl) ⟨1, 0, 1, rfl, rfl⟩) rfl))) (fun z => by cases z) fun _ => run_nx ?_)
    exact ret_R (EvR.to (ev_if (b := false) (d := .bool (decide ((q * o - 1) % p = 0))) (EvB.to (b := decide ((1 : Int) = 0)) (by walk_at "ev"; exact atI_nat (j := 1) rfl) rfl) (fun z => by cases z) (fun _ => by walk_at "ev" <;> assumption)) rfl)
  · change Run K B _ [.im (.int p), .im (.int q), .im (.int o), .im (.tuple [.str "unlike"])] _
    refine run_seq (run_if (b := true) (EvB.to (KW.eb_B (ev_call (by walk_at "ev") ⟨1, _, sh_unlike, _, _, rfl, sh_unlike, rfl⟩)) (by decide +kernel)) (fun _ => ?_) fun z => by cases z)
    walk_at "ret"
/-! is_own_mirror -/
def mirB (p q : Int) : Bool := decide ((q + q) % p = 0) || decide ((q * q + 1) % p = 0)
def frMir : List D → D → Prop := fun ds d => ∃ p q : Int, ds = [.int p, .int q] ∧ (0 < p ∧ -1000 ≤ q ∧ q ≤ 1000) ∧ d = .bool (mirB p q)
theorem ok_is_own_mirror {f : Addr} {fd : FuncData} (F : Fun K "is_own_mirror" "is_own_mirror" s_is_own_mirror f fd) (m : Bl mg) : FnOk P w K mg base CX0 1 f fd ["p", "q"] (spR K frMir) := by
  refine def_R F sc_is_own_mirror frMir (fun ds d ⟨_, _, h, _⟩ => by rw [h]; rfl) fun cdv A outer s H E hr => ⟨_, (pss_one (ps_ret (pe_or (pe_cmpR (op_eqK K rfl hr.units) (pe_op op_mod (pe_op (op_addK K rfl) (pv 1) (pv 1)) (pv 0)) pe_int (nomark _)) (pe_one (pe_cmpR (op_eqK K rfl hr.units) (pe_op op_mod (pe_op (op_addK K rfl) (pe_op op_mul (pv 1) (pv 1)) pe_int) (pv 0)) pe_int (nomark _)))))), fun ds d ⟨p, q, h1, ⟨hp, hq1, hq2⟩, h2⟩ B => ?_⟩
  subst h1 h2
  try dsimp only [cxOf, Cx.nox, Cx.wish]
  have hm : CMul q q := .inl ⟨by omega, by omega⟩
  change Run K B _ [.im (.int p), .im (.int q)] _
  walk_at "ret"
/-! count_links -/
def units (p : Int) : List Int := (rgI 1 (p - 1).toNat).filter fun q => decide (((Int.gcd q p : Nat) : Int) = 1)
def minInv (p q : Int) : Int := if inv q p < q then inv q p else q
def countL (p : Int) : Int := (sortU ((units p).map (minInv p))).length
def frCount : List D → D → Prop := fun ds d => ∃ p : Int, ds = [.int p] ∧ (2 ≤ p ∧ p ≤ 60 ∧ ∀ q ∈ units p, invs q p ≠ []) ∧ d = .int (countL p)
theorem units_len (p : Int) : (units p).length ≤ (p - 1).toNat := by
  unfold units
  refine Nat.le_trans (List.length_filter_le _ _) ?_
  rw [rgI_length]
  exact Nat.le_refl _
theorem ok_count_links {f : Addr} {fd : FuncData} (F : Fun K "count_links" "count_links" s_count_links f fd) (m : Bl mg) (d_common : DefOk P w K mg base "common" ["a", "b"] 1 (spR K frGcd)) (d_inverse : DefOk P w K mg base "inverse" ["q", "p"] 1 (spR K frInv)) (d_unlike : DefOk P w K mg base "unlike" ["items"] 1 (spF K frUnlike)) :
    FnOk P w K mg base CX0 2 f fd ["p"] (spR K frCount) := by
  refine def_R F sc_count_links frCount (fun ds d ⟨_, h, _⟩ => by rw [h]; rfl) fun cdv A outer s H E hr => ?_
  have hu5 : (A.deeper (envOfC "count_links" (defScope s_count_links) s.heap.objs.size f cdv)).units + 65 < cLine := by
    have := hr.un
    omega
  refine ⟨_, (pss_cons (ps_setLc (own := [("q", 2)]) (i := 1) rfl sc_count_links.nd rfl rfl (sw_true rfl rfl rfl (by decide +kernel)) (pi_range2 (by rfl) m.range (pa_cons pe_int (pa_cons (pv 0) pa_nil))) (blkOk_by (N := ["p", "left", "q"]) (sc := defScope s_count_links) (by decide +kernel)) (fun _ _ _ _ _ => (pg_name (i := 2) sc_count_links.nd rfl (Or.inl rfl))) (fun _ _ _ _ _ => (pts_one (pt_cmpR (op_eqK K rfl hr.units) (pe_callD d_common (hr.mono (by decide)) (by rfl) (pa_cons (pv 2) (pa_cons (pv 0) pa_nil))) pe_int (nomark _)))) (fun _ _ _ _ _ => (pv 2)))
        (pss_one (ps_ret (pe_callB (len_K K rfl) (by rfl) m.len PySem.boot_len (pa_cons (pe_callD d_unlike (hr.mono (by decide)) (by rfl) (pa_cons (pe_lc (own := [("q", 2)]) rfl sc_count_links.nd (seq_K K rfl (pv 1)) (blkOk_by (N := ["p", "left", "q"]) (sc := defScope s_count_links) (by decide +kernel)) (fun _ _ _ _ _ => (pg_name (i := 2) sc_count_links.nd rfl (Or.inl rfl))) (fun _ _ _ _ _ => pts_nil) (fun _ _ _ _ _ => (pe_callB (min_K K rfl rfl hu5) (by rfl) m.min (by decide +kernel) (pa_cons (pv 2) (pa_cons (pe_callD d_inverse (hr.mono (by decide)) (by rfl) (pa_cons (pv 2) (pa_cons (pv 0) pa_nil))) pa_nil))))) pa_nil)) pa_nil))))), fun ds d ⟨p, h1, ⟨hp, hp2, hi⟩, h2⟩ B => ?_⟩
  subst h1 h2
  try dsimp only [cxOf, Cx.nox, Cx.wish]
  change Run K B _ [.im (.int p), .no, .no] _
  have hlu := units_len p
  refine run_seq (run_setFi (ds := (units p).map .int) (ef_lc (rgI 1 (p - 1).toNat) .int (fun x => [(2, .int x)]) (fun q => decide (((Int.gcd q p : Nat) : Int) = 1)) .int (it_rng2 (lo := 1) (n := p) (by walk_at "ev") (by omega)) (fun _ _ => tg_name) (fun _ _ p hp => by
      rw [List.mem_singleton.mp hp]; simp) (fun a ha => by walk_at "ev") (fun a ha _ => em_R rfl (by walk_at "ev")) (by rw [rgI_length]; omega)) (noLs_ints _) (Nat.le_of_ble_eq_true rfl) ?_)
  dsimp only [List.set]
  refine ret_R (EvR.to (ev_cbR (eas_cons (EvF.r (KW.ef_call (ds := [lI ((units p).map (minInv p))]) (eas_cons (EvF.r (EvF.to (ef_lc (units p) .int (fun x => [(2, .int x)]) (fun _ => true) (fun q => .int (minInv p q)) (it_seqL (ev_var rfl)) (fun _ _ => tg_name) (fun _ _ p hp => by
      rw [List.mem_singleton.mp hp]; simp) (fun a ha => fun σ H E Q q => q H (Evl.Ex.refl H)) (fun a ha _ => em_R rfl (ev_cbR (ds := [.int a, .int (inv a p)]) (eas_cons (by walk_at "ev") (eas_cons (ev_call (by walk_at "ev") ⟨a, p, rfl, ⟨by omega, by omega, hi a ha⟩, rfl⟩) eas_nil)) rc_min)) (by omega)) ?_)) eas_nil) ⟨_, rfl, ?_, rfl⟩)) eas_nil) rc_lenLI) ?_)
  · rw [List.filter_eq_self.mpr (fun _ _ => rfl), List.map_map]
    rfl
  · rw [List.length_map]; omega
  · rfl
/-! fraction -/
def fracStep (s : Int × Int) (x : Int) : Int × Int := (x * s.1 + s.2, s.1)
def fracRaw (row : List Int) : Int × Int := row.foldl fracStep (1, 0)
def frac (row : List Int) : Int × Int := if (fracRaw row).2 < 0 ∨ (fracRaw row).2 = 0 ∧ (fracRaw row).1 < 0 then (-(fracRaw row).1, -(fracRaw row).2) else fracRaw row
def frFrac : List D → D → Prop := fun ds d => ∃ row : List Int, ds = [tI row] ∧ (∀ x ∈ row, -1000 ≤ x ∧ x ≤ 1000) ∧ d = tI [(frac row).1, (frac row).2]
theorem ok_fraction {f : Addr} {fd : FuncData} (F : Fun K "fraction" "fraction" s_fraction f fd) (m : Bl mg) : FnOk P w K mg base CX0 1 f fd ["row"] (spR K frFrac) := by
  refine def_R F sc_fraction frFrac (fun ds d ⟨_, h, _⟩ => by rw [h]; rfl) fun cdv A outer s H E hr => ⟨_, (pss_cons (ps_asg (pe_tup (pa_cons pe_int (pa_cons pe_int pa_nil))) (tup_K K rfl rfl (pgs_cons (pg_name (i := 1) sc_fraction.nd rfl (Or.inl rfl)) (pgs_cons (pg_name (i := 2) sc_fraction.nd rfl (Or.inl rfl)) pgs_nil))))
        (pss_cons (ps_for PassesOwn.never rfl (seq_K K rfl (pv 0)) (pg_name (i := 3) sc_fraction.nd rfl (Or.inl rfl)) (pss_one (ps_par (i := 1) (j := 2) rfl sc_fraction.nd rfl rfl (by decide) rfl rfl (pa_cons (pe_op (op_addK K rfl) (pe_op op_mul (pv 3) (pv 1)) (pv 2)) (pa_cons (pv 1) pa_nil)) (by rfl))))
        (pss_cons (ps_if (PW.pt (pw_or (pt_cmpR op_lt (pv 2) pe_int (nomark _)) (pw_or1 (PW.pt (pw_and (pt_cmpR (op_eqK K rfl hr.units) (pv 2) pe_int (nomark _)) (pw_and1 (pt_cmpR op_lt (pv 1) pe_int (nomark _)))))))) (pss_one (ps_par (i := 1) (j := 2) rfl sc_fraction.nd rfl rfl (by decide) rfl rfl (pa_cons (pe_un un_neg (pv 1)) (pa_cons (pe_un un_neg (pv 2)) pa_nil)) (by rfl))) pss_nil)
        (pss_one (ps_ret (pe_tup (pa_cons (pv 1) (pa_cons (pv 2) pa_nil)))))))), fun ds d ⟨row, h1, hb, h2⟩ B => ?_⟩
  subst h1 h2
  try dsimp only [cxOf, Cx.nox, Cx.wish]
  change Run K B _ [.im (tI row), .no, .no, .no] _
  refine run_seq (run_unpack (d := .tuple [.int 1, .int 0]) (js := [(1, .int 1), (2, .int 0)]) (by walk_at "ev") rfl (tg_tup (tgl_cons tg_name (tgl_cons tg_name tgl_nil)) rfl) (fun p hp => by
    simp only [List.mem_cons, List.not_mem_nil, or_false] at hp
    rcases hp with rfl | rfl <;> exact Nat.le_of_ble_eq_true rfl) ?_)
  change Run K B _ [.im (tI row), .im (.int 1), .im (.int 0), .no] _
  refine run_seq (run_for_fold row .int (fun x => [(3, .int x)]) (its_seqT (ev_var rfl) (noLs_ints row)) (fun _ _ => tg_name)
    (fun st S' => ∃ e3, S' = [.im (tI row), .im (.int st.1), .im (.int st.2), e3]) fracStep (1, 0) ⟨_, rfl⟩ ?_ ?_ ?_)
  · rintro st x S' _ ⟨e3, rfl⟩ z hz
    rw [List.mem_singleton.mp hz]
    exact Nat.le_of_ble_eq_true rfl
  · rintro i st x S' hx _ ⟨e3, rfl⟩
    change Run K B _ [.im (tI row), .im (.int st.1), .im (.int st.2), .im (.int x)] _
    have hxb := hb x (List.mem_of_getElem? hx)
    have hm : CMul x st.1 := .inl ⟨by omega, by omega⟩
    apply run_parRR
    · walk_at "ev"
      exact hm
    · walk_at "ev"
    · exact rfl
    · exact rfl
    · exact Nat.le_of_ble_eq_true rfl
    · exact Nat.le_of_ble_eq_true rfl
    · exact ⟨_, rfl⟩
  · rintro S' ⟨e3, rfl⟩
    change Run K B _ [.im (tI row), .im (.int (fracRaw row).1), .im (.int (fracRaw row).2), e3] _
    generalize hr : fracRaw row = r
    refine run_seq (run_if (b := decide (r.2 < 0) || (decide (r.2 = 0) && decide (r.1 < 0))) (by walk_at "ev") (fun h => ?_) fun h => run_nx ?_)
    · have h' : r.2 < 0 ∨ r.2 = 0 ∧ r.1 < 0 := by simpa using h
      apply run_parRR
      · walk_at "ev"
      · walk_at "ev"
      · exact rfl
      · exact rfl
      · exact Nat.le_of_ble_eq_true rfl
      · exact Nat.le_of_ble_eq_true rfl
      dsimp only [List.set]
      walk_at "ret"
      rw [frac, hr, if_pos h']
      rfl
    · have h' : ¬ (r.2 < 0 ∨ r.2 = 0 ∧ r.1 < 0) := by simpa using h
      walk_at "ret"
      rw [frac, hr, if_neg h']
      rfl
end
end K70

set_option Elab.async false
set_option linter.all false
set_option maxRecDepth 100000
set_option maxHeartbeats 8000000
namespace K70
open PySem PySem.Spec PyProof.Rows L2 KW
local macro_rules | `(tactic| walk_at "ev") => `(tactic| repeat' (first
  | with_reducible exact ev_int | with_reducible exact ev_str | with_reducible exact ev_bool | with_reducible exact ev_none
  | ((with_reducible apply ev_var); exact rfl)
  | with_reducible exact rv_add | with_reducible exact rv_sub | with_reducible exact rv_lt | with_reducible exact rv_le | with_reducible exact rv_gt | with_reducible exact rv_ge
  | with_reducible exact rv_eqI | with_reducible exact rv_neI | with_reducible exact rv_eqB | with_reducible exact rv_neB | with_reducible exact rv_eqT | with_reducible exact rv_neT | with_reducible exact rv_eqLI | with_reducible exact rv_neLI
  | with_reducible exact rv_isB | with_reducible exact rv_notB | with_reducible exact rv_inLI | with_reducible exact rv_inTI | with_reducible exact rv_niLI | with_reducible exact rv_niTI
  | ((with_reducible apply rv_eqS) <;> decide +kernel) | ((with_reducible apply rv_neS) <;> decide +kernel)
  | with_reducible apply rv_mul | with_reducible apply rv_mod | with_reducible apply rv_fdiv | with_reducible apply rv_pow | with_reducible apply rv_ixTI | with_reducible apply rv_ixLI | with_reducible apply rv_ixT | with_reducible apply rv_ixL | with_reducible apply rv_addT
  | with_reducible exact ru_neg
  | with_reducible exact rc_abs | with_reducible exact rc_max | with_reducible exact rc_min | with_reducible exact rc_minT | with_reducible exact rc_intI | with_reducible exact rc_intB | with_reducible exact rc_lenTI | with_reducible exact rc_lenLI | with_reducible exact rc_lenT | with_reducible exact rc_lenL | with_reducible exact rc_tupL | with_reducible exact rc_tupT | with_reducible exact rc_sum | with_reducible exact rc_all
  | with_reducible apply ev_opR
  | with_reducible apply ev_isiR
  | with_reducible exact isi_int | with_reducible exact isi_int_bool | with_reducible exact isi_tup | with_reducible exact isi_str
  | with_reducible apply ev_cbR
  | with_reducible apply KW.ev_un
  | with_reducible apply ev_tupR
  | ((with_reducible show okT _ = true); exact rfl)
  | with_reducible apply ev_revD
  | with_reducible exact RevD.lst _ | with_reducible exact RevD.tup _
  | with_reducible apply ev_slD
  | with_reducible exact SlD.lst _ | with_reducible exact SlD.tup _
  | with_reducible apply ef_lstR
  | with_reducible apply KW.ef_call
  | with_reducible apply KW.ef_addX_L
  | with_reducible apply KW.ef_listRg1 | with_reducible apply KW.ev_tupRg1 | with_reducible apply KW.ev_tupRg2
  | with_reducible apply ep_some
  | with_reducible exact ep_none
  | with_reducible apply KW.eb_test
  | with_reducible apply KW.eb_B
  | with_reducible apply KW.eb_not
  | with_reducible apply KW.ev_not
  | with_reducible exact eas_nil
  | with_reducible apply eas_cons
  | with_reducible apply KW.eb_and
  | with_reducible apply KW.eb_or
  | with_reducible apply KW.ev_and
  | with_reducible apply KW.ev_or
  | with_reducible apply KW.ev_chain
  | with_reducible apply KW.ev_call | with_reducible apply KW.ev_callF
  | walk_at "fr"
  | with_reducible refine fun (_ : _ = true) => ?_
  | with_reducible refine fun (_ : _ = false) => ?_))
local macro_rules | `(tactic| walk_at "sd") => `(tactic| first
  | assumption | omega | exact rfl | exact noL_tI _ | exact noLs_ints _ | exact Nat.le_of_ble_eq_true rfl
  | (refine Or.inl ⟨?_, ?_⟩ <;> omega) | (refine Or.inr ⟨?_, ?_⟩ <;> omega) | (refine And.intro ?_ ?_ <;> omega) | exact ⟨by omega, by omega, by decide⟩
  | exact ⟨_, _, rfl, rfl⟩)
local macro_rules | `(tactic| walk_at "set") => `(tactic| (apply run_seq; apply run_setR; (focus walk_at "ev"); all_goals (try walk_at "sd"); try dsimp only [List.set]))
local macro_rules | `(tactic| walk_at "setF") => `(tactic| (apply run_seq; apply run_setF; (focus walk_at "ev"); all_goals (try walk_at "sd"); try dsimp only [List.set]))
local macro_rules | `(tactic| walk_at "if") => `(tactic| (apply run_seq; apply run_if; (focus walk_at "ev"); all_goals (try walk_at "sd")))
local macro_rules | `(tactic| walk_at "if1") => `(tactic| (apply run_if; (focus walk_at "ev"); all_goals (try walk_at "sd")))
local macro_rules | `(tactic| walk_at "ret") => `(tactic| (apply ret_R; apply EvR.to; (focus walk_at "ev"); all_goals (try walk_at "sd")))
local macro_rules | `(tactic| walk_at "app") => `(tactic| (apply run_app; exact rfl; (focus walk_at "ev"); all_goals (try walk_at "sd"); try dsimp only [List.set]))
local macro_rules | `(tactic| walk_at "fr") => `(tactic| first | exact ⟨_, _, rfl, by omega, rfl⟩ | exact ⟨_, rfl, rfl⟩ | exact ⟨_, _, rfl, rfl⟩ | exact ⟨_, _, _, rfl, rfl⟩)

section
variable {P : Program} {w : World} {K : PySem.W.Frag} {mg : Str → Option Value} {base : Heap}
/-! row_for -/
def euc : Nat → Int → Int → List Int
  | 0, _, _ => []
  | n + 1, p, q => if 0 < q then p / q :: euc n q (p % q) else []
def rowF (p q : Int) : List Int := (euc 64 p q).reverse
def frRow : List D → D → Prop := fun ds d => ∃ p q : Int, ds = [.int p, .int q] ∧ (0 ≤ p ∧ 0 ≤ q ∧ q ≤ 64) ∧ d = tI (rowF p q)
theorem ok_row_for {f : Addr} {fd : FuncData} (F : Fun K "row_for" "row_for" s_row_for f fd) (m : Bl mg) : FnOk P w K mg base CX0 1 f fd ["p", "q"] (spR K frRow) := by
  refine def_R F sc_row_for frRow (fun ds d ⟨_, _, h, _⟩ => by rw [h]; rfl) fun cdv A outer s H E hr => ⟨_, (pss_cons (ps_set (i := 2) sc_row_for.nd rfl (.inl rfl) (pe_lst pa_nil))
        (pss_cons (ps_while PassesOwn.never (pt_cmpR op_gt (pv 1) pe_int (nomark _)) (pss_cons (ps_expr (pe_bm PySem.F.plainAttrs_list PySem.F.slot_list_append PySem.F.type_list_append mt_append (pv 2) (pa_cons (pe_op op_fdiv (pv 0) (pv 1)) pa_nil)))
        (pss_one (ps_par (i := 0) (j := 1) rfl sc_row_for.nd rfl rfl (by decide) rfl rfl (pa_cons (pv 1) (pa_cons (pe_op op_mod (pv 0) (pv 1)) pa_nil)) (by rfl)))))
        (pss_one (ps_ret (pe_callTy (tupOf_K K rfl) (by rfl) m.tuple (by decide +kernel) (pa_cons (rev_K K rfl (pv 2)) pa_nil)))))), fun ds d ⟨p, q, h1, ⟨hp, hq, hq2⟩, h2⟩ B => ?_⟩
  subst h1 h2
  try dsimp only [cxOf, Cx.nox, Cx.wish]
  change Run K B _ [.im (.int p), .im (.int q), .no] _
  walk_at "setF"
  refine run_seq (run_while (fun m S' => ∃ (x y : Int) (fs : List Int) (n : Nat), S' = [.im (.int x), .im (.int y), .ow (fs.map .int)] ∧ 0 ≤ x ∧ 0 ≤ y ∧ y ≤ (n : Int) ∧ n ≤ 64 ∧ fs.length + n = 64 ∧ fs ++ euc n x y = euc 64 p q ∧ m = y.toNat) _ ⟨p, q, [], 64, rfl, hp, hq, hq2, by omega, rfl, rfl, rfl⟩ ?_)
  rintro k S' ⟨x, y, fs, n, rfl, hx, hy, hn, hn2, hl, he, rfl⟩
  refine ⟨decide (0 < y), by walk_at "ev", fun h => ?_, fun h => ?_⟩
  · have h := of_decide_eq_true h
    have hd : CDiv x y := ⟨h, by omega⟩
    have hz : (fs.map PyData.int).length < 100000 := by rw [List.length_map]; omega
    apply run_seq
    walk_at "app"
    apply run_parRR
    · walk_at "ev"
    · walk_at "ev"
      exact h
    · exact rfl
    · exact rfl
    · exact Nat.le_of_ble_eq_true rfl
    · exact Nat.le_of_ble_eq_true rfl
    · have h1 := Int.emod_nonneg x (Int.ne_of_gt h)
      have h2 := Int.emod_lt_of_pos x h
      obtain ⟨n', rfl⟩ : ∃ n', n = n' + 1 := ⟨n - 1, by omega⟩
      refine ⟨_, by omega, y, x % y, fs ++ [x / y], n', ?_, hy, h1, by omega, by omega, by rw [List.length_append]; show fs.length + 1 + n' = 64; omega, ?_, rfl⟩
      · rw [List.map_append]; rfl
      · rw [← he, euc, if_pos h, List.append_assoc]
        rfl
  · have h := of_decide_eq_false h
    have he' : fs = euc 64 p q := by
      rw [← he]
      cases n with
      | zero => simp [euc]
      | succ n => rw [euc, if_neg h, List.append_nil]
    refine ret_R (EvR.to (ev_cbR (eas_cons (ev_revD (ev_var rfl) (RevD.lst _)) eas_nil) rc_tupL) ?_)
    rw [rev_ints, he']
    rfl
/-! odd_row -/
def oddF (p q : Int) : List Int :=
  if (rowF p q).length % 2 = 1 then rowF p q else match rowF p q with
    | a :: b :: rest => if a = 1 then (b + 1) :: rest else 1 :: (a - 1) :: b :: rest
    | _ => []
def frOdd : List D → D → Prop := fun ds d => ∃ p q : Int, ds = [.int p, .int q] ∧ (0 ≤ p ∧ 0 ≤ q ∧ q ≤ 64 ∧ rowF p q ≠ []) ∧ d = tI (oddF p q)
theorem rowF_len (p q : Int) : (rowF p q).length ≤ 64 := by
  unfold rowF
  rw [List.length_reverse]
  have : ∀ n p q, (euc n p q).length ≤ n := by
    intro n
    induction n with
    | zero => intro p q; exact Nat.le_refl _
    | succ n ih =>
      intro p q
      unfold euc
      split
      · have := ih q (p % q)
        rw [List.length_cons]
        omega
      · exact Nat.zero_le _
  exact this 64 p q
theorem ok_odd_row {f : Addr} {fd : FuncData} (F : Fun K "odd_row" "odd_row" s_odd_row f fd) (m : Bl mg) (d_row_for : DefOk P w K mg base "row_for" ["p", "q"] 1 (spR K frRow)) : FnOk P w K mg base CX0 2 f fd ["p", "q"] (spR K frOdd) := by
  refine def_R F sc_odd_row frOdd (fun ds d ⟨_, _, h, _⟩ => by rw [h]; rfl) fun cdv A outer s H E hr => ⟨_, (pss_cons (ps_set (i := 2) sc_odd_row.nd rfl (.inl rfl) (pe_callD d_row_for (hr.mono (by decide)) (by rfl) (pa_cons (pv 0) (pa_cons (pv 1) pa_nil))))
        (pss_cons (ps_if (pt_cmpR (op_eqK K rfl hr.units) (pe_op op_mod (pe_callB (len_K K rfl) (by rfl) m.len PySem.boot_len (pa_cons (pv 2) pa_nil)) pe_int) pe_int (nomark _)) (pss_one (ps_ret (pv 2))) pss_nil)
        (pss_cons (ps_if (pt_cmpR (op_eqK K rfl hr.units) (pe_ix (ix_K K rfl) (pv 2) pe_int (fun _ _ => rfl)) pe_int (nomark _)) (pss_one (ps_ret (pe_op (op_addK K rfl) (pe_tup (pa_cons (pe_op (op_addK K rfl) (pe_ix (ix_K K rfl) (pv 2) pe_int (fun _ _ => rfl)) pe_int) pa_nil)) (pe_slice (sl_K K rfl) (pv 2) (po_some pe_int) po_none)))) pss_nil)
        (pss_one (ps_ret (pe_op (op_addK K rfl) (pe_tup (pa_cons pe_int (pa_cons (pe_op op_sub (pe_ix (ix_K K rfl) (pv 2) pe_int (fun _ _ => rfl)) pe_int) pa_nil))) (pe_slice (sl_K K rfl) (pv 2) (po_some pe_int) po_none))))))), fun ds d ⟨p, q, h1, ⟨hp, hq, hq2, hne⟩, h2⟩ B => ?_⟩
  subst h1 h2
  try dsimp only [cxOf, Cx.nox, Cx.wish]
  change Run K B _ [.im (.int p), .im (.int q), .no] _
  have hlen := rowF_len p q
  refine run_seq (run_setR (ev_call (d := tI (rowF p q)) (by walk_at "ev") ⟨p, q, rfl, ⟨hp, hq, hq2⟩, rfl⟩) (noL_tI _) (Nat.le_of_ble_eq_true rfl) ?_)
  dsimp only [List.set]
  unfold oddF
  generalize rowF p q = row at hne hlen ⊢
  refine run_seq (run_if (b := decide ((row.length : Int) % 2 = 1)) (by walk_at "ev"; decide) (fun h => ?_) fun h => run_nx ?_)
  · have h := of_decide_eq_true h
    refine ret_R (EvR.to (ev_var rfl) ?_)
    rw [if_pos (by omega)]
  · have h := of_decide_eq_false h
    rw [if_neg (by omega)]
    match row, hne, h with
    | [], hne, _ => exact absurd rfl hne
    | [a], _, h => exact absurd (show ((1 : Nat) : Int) % 2 = 1 from rfl) h
    | a :: b :: rest, _, _ =>
      have i0 : atI ((a :: b :: rest).map PyData.int) 0 = some (.int a) := atI_nat (j := 0) rfl
      have i1 : atI ((a :: b :: rest).map PyData.int) 1 = some (.int b) := atI_nat (j := 1) rfl
      have hl : rest.length ≤ 64 := by simp at hlen; omega
      refine run_seq (run_if (b := decide (a = 1)) (KW.eb_test (ev_opR (ev_opR (ev_var rfl) ev_int (rv_ixT i0)) ev_int rv_eqI)) (fun h => ?_) fun h => run_nx ?_)
      · have h := of_decide_eq_true h
        refine ret_R (EvR.to (ev_opR (ev_tupR (eas_cons (ev_opR (ev_opR (ev_var rfl) ev_int (rv_ixT i1)) ev_int rv_add) eas_nil) rfl) (ev_slD (ev_var rfl) (ep_some ev_int) ep_none (SlD.tup _)) (rv_addT ?_)) ?_)
        · have e := cut_ints (a :: b :: rest) 2
          show 1 + (cutD ((a :: b :: rest).map PyData.int) (some ((2 : Nat) : Int)) none).length ≤ _
          rw [e, List.length_map]
          show 1 + rest.length ≤ _
          omega
        · show PyData.tuple ([.int (b + 1)] ++ cutD ((a :: b :: rest).map .int) (some ((2 : Nat) : Int)) none) = tI (if a = 1 then (b + 1) :: rest else 1 :: (a - 1) :: b :: rest)
          rw [cut_ints, if_pos h]
          rfl
      · have h := of_decide_eq_false h
        refine ret_R (EvR.to (ev_opR (ev_tupR (eas_cons ev_int (eas_cons (ev_opR (ev_opR (ev_var rfl) ev_int (rv_ixT i0)) ev_int rv_sub) eas_nil)) rfl) (ev_slD (ev_var rfl) (ep_some ev_int) ep_none (SlD.tup _)) (rv_addT ?_)) ?_)
        · have e := cut_ints (a :: b :: rest) 1
          show 2 + (cutD ((a :: b :: rest).map PyData.int) (some ((1 : Nat) : Int)) none).length ≤ _
          rw [e, List.length_map]
          show 2 + (rest.length + 1) ≤ _
          omega
        · show PyData.tuple ([.int 1, .int (a - 1)] ++ cutD ((a :: b :: rest).map .int) (some ((1 : Nat) : Int)) none) = tI (if a = 1 then (b + 1) :: rest else 1 :: (a - 1) :: b :: rest)
          rw [cut_ints, if_neg h]
          rfl
end
end K70

set_option Elab.async false
set_option linter.all false
set_option maxRecDepth 1000000
namespace K70
/-! the plain law, p by p -/
def kindS (p q o : Int) : Int := if (q - o) % p = 0 then 0 else if (q * o - 1) % p = 0 then 1 else 2
def chkP (p : Int) : Bool :=
  let us := units p
  us.all (fun q => !(invs q p).isEmpty) && decide (2 * countL p = us.length + (us.filter fun q => decide ((q * q - 1) % p = 0)).length)
def backs (p q : Int) : List Int := (units p).filter fun x => decide ((x * q - 1) % p = 0)
def chkRow (p q : Int) (row : List Int) : Bool :=
  decide (frac row = (p, q)) && decide (frac (rowF p q) = (p, q)) && decide ((row.length : Int) % 2 = 1) && decide (row.length ≤ 100)
    && decide (frac (row.map fun x => -x) = (p, -q) ∨ frac (row.map fun x => -x) = (-p, q))
    && decide ((frac row.reverse).1 = p) && checkB p q ((frac row.reverse).2 % p) 1
    && row.all (fun x => decide (0 ≤ x ∧ x ≤ 100)) && decide (frac (row ++ [0]) = (q, p)) && decide (frac (row ++ [3]) = (3 * p + q, p))
    && !(rowF p q).isEmpty && (rowF p q).all (fun x => decide (0 ≤ x ∧ x ≤ 100)) && !row.isEmpty
def chkQ (p q : Int) : Bool :=
  let b := inv q p
  decide ((backs p q).head? = some b) && decide ((b * q - 1) % p = 0) && (units p).contains b && (units p).contains (p - q) && (units p).contains (p - b)
    && (mirB p q == decide (kindS p q (p - q) < 2)) && (mirB p (p - q) == mirB p q) && (mirB p b == mirB p q)
    && chkRow p q (oddF p q)
set_option maxHeartbeats 0 in
theorem chkP_all : (KW.rgI 2 59).all chkP = true := by decide +kernel
set_option maxHeartbeats 0 in
theorem chkQ_all : (KW.rgI 2 59).all (fun p => (units p).all fun q => chkQ p q) = true := by decide +kernel
theorem dvd0 {p x : Int} : x % p = 0 ↔ ∃ k, x = p * k := by
  constructor
  · intro h
    exact ⟨x / p, by have := Int.mul_ediv_add_emod x p; omega⟩
  · rintro ⟨k, rfl⟩
    exact Int.mul_emod_right p k
theorem cong {p q b o : Int} (h : (b * q - 1) % p = 0) : (b - o) % p = 0 ↔ (q * o - 1) % p = 0 := by
  obtain ⟨k, hk⟩ := dvd0.mp h
  rw [dvd0, dvd0]
  constructor
  · rintro ⟨m, hm⟩
    refine ⟨k - q * m, ?_⟩
    have e : b = o + p * m := by omega
    rw [Int.mul_sub, ← hk, e]
    rw [Int.add_mul, Int.mul_comm o q, Int.mul_left_comm p q m, Int.mul_comm (p * m) q]
    omega
  · rintro ⟨m, hm⟩
    refine ⟨k * o - b * m, ?_⟩
    rw [Int.mul_sub, ← Int.mul_assoc, ← hk, Int.mul_left_comm p b m, ← hm, Int.sub_mul, Int.mul_sub, Int.mul_assoc b q o]
    omega
theorem kind_eq {p q o : Int} (h : (inv q p * q - 1) % p = 0) : kindOf p q o = kindS p q o := by
  unfold kindOf kindS
  by_cases h0 : (q - o) % p = 0
  · rw [if_pos h0, if_pos h0]
  · rw [if_neg h0, if_neg h0]
    by_cases h1 : (inv q p - o) % p = 0
    · rw [if_pos h1, if_pos ((cong h).mp h1)]
    · rw [if_neg h1, if_neg (fun z => h1 ((cong h).mpr z))]
theorem sub_sym {p a b : Int} : (a - b) % p = 0 ↔ (b - a) % p = 0 := by
  rw [dvd0, dvd0]
  constructor
  · rintro ⟨k, h⟩; exact ⟨-k, by rw [Int.mul_neg]; omega⟩
  · rintro ⟨k, h⟩; exact ⟨-k, by rw [Int.mul_neg]; omega⟩
theorem kindS_sym {p q o : Int} : kindS p o q = kindS p q o := by
  unfold kindS
  simp only [Int.mul_comm o q, sub_sym (a := o) (b := q)]
theorem kindS_neg {p q o : Int} : kindS p (p - q) (p - o) = kindS p q o := by
  unfold kindS
  have e1 : ((p - q) - (p - o)) % p = 0 ↔ (q - o) % p = 0 := by
    rw [show (p - q) - (p - o) = o - q by omega]; exact sub_sym
  have e2 : ((p - q) * (p - o) - 1) % p = 0 ↔ (q * o - 1) % p = 0 := by
    rw [show (p - q) * (p - o) - 1 = (q * o - 1) + p * (p - q - o) by
      rw [Int.sub_mul, Int.mul_sub, Int.mul_sub, Int.mul_sub, Int.mul_sub, Int.mul_comm q p]; omega, Int.add_mul_emod_self_left]
  simp only [e1, e2]
theorem kindS_lt {p q o : Int} : kindS p q o < 2 ↔ (q - o) % p = 0 ∨ (q * o - 1) % p = 0 := by
  unfold kindS
  split
  · simp [*]
  · split <;> simp [*]
theorem kindS_back {p q b o : Int} (h : (b * q - 1) % p = 0) : kindS p b o < 2 ↔ kindS p q o < 2 := by
  have h' : (q * b - 1) % p = 0 := by rw [Int.mul_comm]; exact h
  rw [kindS_lt, kindS_lt, cong h, ← cong h']
  exact Or.comm
theorem kindS_in {p q b o : Int} (h : (b * q - 1) % p = 0) (hq : 0 < q ∧ q < p) (hb : 0 < b ∧ b < p) (ho : 0 < o ∧ o < p) : kindS p q o < 2 ↔ o ∈ [q, b] := by
  have small : ∀ x y : Int, 0 < x → x < p → 0 < y → y < p → ((x - y) % p = 0 ↔ y = x) := by
    intro x y h1 h2 h3 h4
    constructor
    · intro h
      rcases Int.lt_or_le x y with c | c
      · have : (x - y + p) % p = 0 := by rw [Int.add_emod_right]; exact h
        rw [Int.emod_eq_of_lt (by omega) (by omega)] at this
        omega
      · rw [Int.emod_eq_of_lt (by omega) (by omega)] at h
        omega
    · rintro rfl
      simp
  rw [kindS_lt, ← cong h, small q o hq.1 hq.2 ho.1 ho.2, small b o hb.1 hb.2 ho.1 ho.2]
  simp
theorem kindS_vals (p q o : Int) : kindS p q o = 0 ∨ kindS p q o = 1 ∨ kindS p q o = 2 := by
  unfold kindS
  split
  · exact .inl rfl
  · split
    · exact .inr (.inl rfl)
    · exact .inr (.inr rfl)
theorem check_kind (p q o : Int) : checkB p q o (kindS p q o) = true := by
  unfold kindS checkB
  by_cases h0 : (q - o) % p = 0
  · simp [h0]
  · by_cases h1 : (q * o - 1) % p = 0
    · simp [h0, h1]
    · simp [h0, h1]
end K70

set_option Elab.async false
set_option linter.all false
set_option maxRecDepth 100000
set_option maxHeartbeats 8000000
namespace K70
open PySem PySem.Spec PyProof.Rows L2 KW
local macro_rules | `(tactic| walk_at "ev") => `(tactic| repeat' (first
  | with_reducible exact ev_int | with_reducible exact ev_str | with_reducible exact ev_bool | with_reducible exact ev_none
  | ((with_reducible apply ev_var); exact rfl)
  | with_reducible exact rv_add | with_reducible exact rv_sub | with_reducible exact rv_lt | with_reducible exact rv_le | with_reducible exact rv_gt | with_reducible exact rv_ge
  | with_reducible exact rv_eqI | with_reducible exact rv_neI | with_reducible exact rv_eqB | with_reducible exact rv_neB | with_reducible exact rv_eqT | with_reducible exact rv_neT | with_reducible exact rv_eqLI | with_reducible exact rv_neLI
  | with_reducible exact rv_isB | with_reducible exact rv_notB | with_reducible exact rv_inLI | with_reducible exact rv_inTI | with_reducible exact rv_niLI | with_reducible exact rv_niTI
  | ((with_reducible apply rv_eqS) <;> decide +kernel) | ((with_reducible apply rv_neS) <;> decide +kernel)
  | with_reducible apply rv_mul | with_reducible apply rv_mod | with_reducible apply rv_fdiv | with_reducible apply rv_pow | with_reducible apply rv_ixTI | with_reducible apply rv_ixLI | with_reducible apply rv_ixT | with_reducible apply rv_ixL | with_reducible apply rv_addT
  | with_reducible exact ru_neg
  | with_reducible exact rc_abs | with_reducible exact rc_max | with_reducible exact rc_min | with_reducible exact rc_minT | with_reducible exact rc_intI | with_reducible exact rc_intB | with_reducible exact rc_lenTI | with_reducible exact rc_lenLI | with_reducible exact rc_lenT | with_reducible exact rc_lenL | with_reducible exact rc_tupL | with_reducible exact rc_tupT | with_reducible exact rc_sum | with_reducible exact rc_all
  | with_reducible apply ev_opR
  | with_reducible apply ev_isiR
  | with_reducible exact isi_int | with_reducible exact isi_int_bool | with_reducible exact isi_tup | with_reducible exact isi_str
  | with_reducible apply ev_cbR
  | with_reducible apply KW.ev_un
  | with_reducible apply ev_tupR
  | ((with_reducible show okT _ = true); exact rfl)
  | with_reducible apply ev_revD
  | with_reducible exact RevD.lst _ | with_reducible exact RevD.tup _
  | with_reducible apply ev_slD
  | with_reducible exact SlD.lst _ | with_reducible exact SlD.tup _
  | with_reducible apply ef_lstR
  | with_reducible apply KW.ef_call
  | with_reducible apply KW.ef_addX_L
  | with_reducible apply KW.ef_listRg1 | with_reducible apply KW.ev_tupRg1 | with_reducible apply KW.ev_tupRg2
  | with_reducible apply ep_some
  | with_reducible exact ep_none
  | with_reducible apply KW.eb_test
  | with_reducible apply KW.eb_B
  | with_reducible apply KW.eb_not
  | with_reducible apply KW.ev_not
  | with_reducible exact eas_nil
  | with_reducible apply eas_cons
  | with_reducible apply KW.eb_and
  | with_reducible apply KW.eb_or
  | with_reducible apply KW.ev_and
  | with_reducible apply KW.ev_or
  | with_reducible apply KW.ev_chain
  | with_reducible apply KW.ev_call | with_reducible apply KW.ev_callF
  | walk_at "fr"
  | with_reducible refine fun (_ : _ = true) => ?_
  | with_reducible refine fun (_ : _ = false) => ?_))
local macro_rules | `(tactic| walk_at "sd") => `(tactic| first
  | assumption | omega | exact rfl | exact noL_tI _ | exact noLs_ints _ | exact Nat.le_of_ble_eq_true rfl
  | (refine Or.inl ⟨?_, ?_⟩ <;> omega) | (refine Or.inr ⟨?_, ?_⟩ <;> omega) | (refine And.intro ?_ ?_ <;> omega) | exact ⟨by omega, by omega, by decide⟩
  | exact ⟨_, _, rfl, rfl⟩)
local macro_rules | `(tactic| walk_at "set") => `(tactic| (apply run_seq; apply run_setR; (focus walk_at "ev"); all_goals (try walk_at "sd"); try dsimp only [List.set]))
local macro_rules | `(tactic| walk_at "setF") => `(tactic| (apply run_seq; apply run_setF; (focus walk_at "ev"); all_goals (try walk_at "sd"); try dsimp only [List.set]))
local macro_rules | `(tactic| walk_at "if") => `(tactic| (apply run_seq; apply run_if; (focus walk_at "ev"); all_goals (try walk_at "sd")))
local macro_rules | `(tactic| walk_at "if1") => `(tactic| (apply run_if; (focus walk_at "ev"); all_goals (try walk_at "sd")))
local macro_rules | `(tactic| walk_at "ret") => `(tactic| (apply ret_R; apply EvR.to; (focus walk_at "ev"); all_goals (try walk_at "sd")))
local macro_rules | `(tactic| walk_at "app") => `(tactic| (apply run_app; exact rfl; (focus walk_at "ev"); all_goals (try walk_at "sd"); try dsimp only [List.set]))
local macro_rules | `(tactic| walk_at "fr") => `(tactic| first | exact ⟨_, _, rfl, by omega, rfl⟩ | exact ⟨_, rfl, rfl⟩ | exact ⟨_, _, rfl, rfl⟩ | exact ⟨_, _, _, rfl, rfl⟩)

/-! what the checks say -/
theorem mem_units {p q : Int} (h : q ∈ units p) : 1 ≤ q ∧ q < p := by
  have := mem_rgI.mp (List.mem_filter.mp h).1
  omega
theorem rg_mem {p : Int} (hp : 2 ≤ p ∧ p < 61) : p ∈ rgI 2 59 := mem_rgI.mpr (by omega)
theorem invs_ne {p q : Int} (hp : 2 ≤ p ∧ p < 61) (hq : q ∈ units p) : invs q p ≠ [] := by
  have := List.all_eq_true.mp chkP_all p (rg_mem hp)
  simp only [chkP, Bool.and_eq_true] at this
  have := List.all_eq_true.mp this.1 q hq
  intro z
  rw [z] at this
  cases this
theorem count_ok {p : Int} (hp : 2 ≤ p ∧ p < 61) : 2 * countL p = ((units p).length : Int) + (((units p).filter fun q => decide ((q * q - 1) % p = 0)).length : Int) := by
  have := List.all_eq_true.mp chkP_all p (rg_mem hp)
  simp only [chkP, Bool.and_eq_true, decide_eq_true_eq] at this
  exact this.2
theorem facts {p q : Int} (hp : 2 ≤ p ∧ p < 61) (hq : q ∈ units p) : (backs p q).head? = some (inv q p) ∧ (inv q p * q - 1) % p = 0 ∧ inv q p ∈ units p ∧ p - q ∈ units p ∧ p - inv q p ∈ units p ∧
    mirB p q = decide (kindS p q (p - q) < 2) ∧ mirB p (p - q) = mirB p q ∧ mirB p (inv q p) = mirB p q ∧ chkRow p q (oddF p q) = true := by
  have := List.all_eq_true.mp (List.all_eq_true.mp chkQ_all p (rg_mem hp)) q hq
  simp only [chkQ, Bool.and_eq_true, decide_eq_true_eq, List.contains_iff_mem, beq_iff_eq] at this
  obtain ⟨⟨⟨⟨⟨⟨⟨⟨h1, h2⟩, h3⟩, h4⟩, h5⟩, h6⟩, h7⟩, h8⟩, h9⟩ := this
  exact ⟨h1, h2, h3, h4, h5, h6, h7, h8, h9⟩
theorem row_facts {p q : Int} {row : List Int} (h : chkRow p q row = true) : frac row = (p, q) ∧ frac (rowF p q) = (p, q) ∧ (row.length : Int) % 2 = 1 ∧ row.length ≤ 100 ∧ (frac (row.map fun x => -x) = (p, -q) ∨ frac (row.map fun x => -x) = (-p, q)) ∧
    (frac row.reverse).1 = p ∧ checkB p q ((frac row.reverse).2 % p) 1 = true ∧ (∀ x ∈ row, 0 ≤ x ∧ x ≤ 100) ∧ frac (row ++ [0]) = (q, p) ∧ frac (row ++ [3]) = (3 * p + q, p) ∧ rowF p q ≠ [] ∧ (∀ x ∈ rowF p q, 0 ≤ x ∧ x ≤ 100) ∧ row ≠ [] := by
  simp only [chkRow, Bool.and_eq_true, decide_eq_true_eq, List.all_eq_true, Bool.not_eq_true', List.isEmpty_eq_false_iff] at h
  obtain ⟨⟨⟨⟨⟨⟨⟨⟨⟨⟨⟨⟨h1, h2⟩, h3⟩, h4⟩, h5⟩, h6⟩, h7⟩, h8⟩, h9⟩, h10⟩, h11⟩, h12⟩, h13⟩ := h
  exact ⟨h1, h2, h3, h4, h5, h6, h7, h8, h9, h10, h11, h12, h13⟩
theorem tI_snoc (xs : List Int) (y : Int) : tI (xs ++ [y]) = .tuple (xs.map .int ++ [.int y]) := by
  unfold tI
  rw [List.map_append]
  rfl
def toldS (k : Int) : Str := if k = 0 then "same" else if k = 1 then "same" else "unlike"
theorem rv_told {K : PySem.W.Frag} {k : Int} : RvR K (rIxX K) (toldOf k) (.int 0) (.str (toldS k)) := by
  unfold toldOf toldS
  split
  · exact rv_ixT (atI_nat (j := 0) rfl)
  · split
    · exact rv_ixT (atI_nat (j := 0) rfl)
    · exact rv_ixT (atI_nat (j := 0) rfl)
theorem sh_told (k : Int) : SeqAt.shaped (.str (toldS k)) = true := by
  unfold toldS
  split
  · exact sh_same
  · split
    · exact sh_same
    · exact sh_unlike
theorem noL_told (k : Int) : noL (toldOf k) = true := by
  unfold toldOf
  split
  · rfl
  · split <;> rfl
theorem told_same {k : Int} (h : k = 0 ∨ k = 1 ∨ k = 2) : (toldS k == ("same" : Str)) = decide (k < 2) := by
  rcases h with rfl | rfl | rfl <;> decide +kernel
theorem told_eq {k j : Int} (hk : k = 0 ∨ k = 1 ∨ k = 2) (hj : j = 0 ∨ j = 1 ∨ j = 2) (h : k < 2 ↔ j < 2) : (toldS k == toldS j) = true := by
  rcases hk with rfl | rfl | rfl <;> rcases hj with rfl | rfl | rfl <;> first | decide +kernel | (exact absurd h (by decide))
section
variable {P : Program} {w : World} {K : PySem.W.Frag} {mg : Str → Option Value} {base : Heap}
def spLaw (K : PySem.W.Frag) : Sp := fun vs H Q _ => ∃ ns : List Int, RpAll K H vs [lI ns] ∧ ns.length ≤ 1000 ∧ ∀ H', Q (.bl true) H'
theorem ok_law {f : Addr} {fd : FuncData} (F : Fun K "law" "law" s_law f fd) (m : Bl mg)
    (d__law_pool : DefOk P w K mg base "_law_pool" ["script"] 2 (spPool K)) (d__law_pick : DefOk P w K mg base "_law_pick" ["pool", "amount"] 1 (spX K okPick frPick 1)) (d__law_gcd : DefOk P w K mg base "_law_gcd" ["a", "b"] 1 (spR K frGcd))
    (d_count_links : DefOk P w K mg base "count_links" ["p"] 2 (spR K frCount)) (d_bridge_paper : DefOk P w K mg base "bridge_paper" ["p", "q", "other"] 2 (spR K frBridge)) (d_check_bridge : DefOk P w K mg base "check_bridge" ["p", "q", "other", "value"] 3 (spR K frCheck))
    (d_is_own_mirror : DefOk P w K mg base "is_own_mirror" ["p", "q"] 1 (spR K frMir)) (d_odd_row : DefOk P w K mg base "odd_row" ["p", "q"] 2 (spR K frOdd)) (d_fraction : DefOk P w K mg base "fraction" ["row"] 1 (spR K frFrac)) (d_row_for : DefOk P w K mg base "row_for" ["p", "q"] 1 (spR K frRow)) :
    FnOk P w K mg base CX0 4 f fd ["script"] (spLaw K) := by
  refine F.ok sc_law (fun vs H Q E h => ?_) (fun cdv A outer s H vs Q E hr h => ?_)
  · obtain ⟨ns, r, _⟩ := h
    rw [Paired.length r]
    rfl
  have hu5 : (A.deeper (envOfC "law" (defScope s_law) s.heap.objs.size f cdv)).units + 65 < cLine := by
    have := hr.un
    omega
  refine ⟨_, (pss_cons (ps_set (i := 1) sc_law.nd rfl (.inl rfl) (pe_callD d__law_pool (hr.mono (by decide)) (by rfl) (pa_cons (pv 0) pa_nil)))
        (pss_cons (ps_set (i := 2) sc_law.nd rfl (.inr rfl) (pe_op (op_addK K rfl) pe_int (pe_callD d__law_pick (hr.mono (by decide)) (by rfl) (pa_cons (pv 1) (pa_cons pe_int pa_nil)))))
        (pss_cons (ps_setLc (own := [("q", 5)]) (i := 3) rfl sc_law.nd rfl rfl (sw_true rfl rfl rfl (by decide +kernel)) (pi_range2 (by rfl) m.range (pa_cons pe_int (pa_cons (pv 2) pa_nil))) (blkOk_by (N := ["script", "pool", "p", "units", "own", "q", "r", "back", "other", "told", "row", "a", "b", "x"]) (sc := defScope s_law) (by decide +kernel)) (fun _ _ _ _ _ => (pg_name (i := 5) sc_law.nd rfl (Or.inl rfl))) (fun _ _ _ _ _ => (pts_one (pt_cmpR (op_eqK K rfl hr.units) (pe_callD d__law_gcd (hr.mono (by decide)) (by rfl) (pa_cons (pv 5) (pa_cons (pv 2) pa_nil))) pe_int (nomark _)))) (fun _ _ _ _ _ => (pv 5)))
        (pss_cons (ps_setLc (own := [("q", 5)]) (i := 4) rfl sc_law.nd rfl rfl (sw_true rfl rfl rfl (by decide +kernel)) (seq_K K rfl (pv 3)) (blkOk_by (N := ["script", "pool", "p", "units", "own", "q", "r", "back", "other", "told", "row", "a", "b", "x"]) (sc := defScope s_law) (by decide +kernel)) (fun _ _ _ _ _ => (pg_name (i := 5) sc_law.nd rfl (Or.inl rfl))) (fun _ _ _ _ _ => (pts_one (pt_cmpR (op_eqK K rfl hr.units) (pe_op op_mod (pe_op op_sub (pe_op op_mul (pv 5) (pv 5)) pe_int) (pv 2)) pe_int (nomark _)))) (fun _ _ _ _ _ => (pv 5)))
        (pss_cons (ps_if (pt_cmpR (op_neK K rfl hr.units) (pe_op op_mul pe_int (pe_callD d_count_links (hr.mono (by decide)) (by rfl) (pa_cons (pv 2) pa_nil))) (pe_op (op_addK K rfl) (pe_callB (len_K K rfl) (by rfl) m.len PySem.boot_len (pa_cons (pv 3) pa_nil)) (pe_callB (len_K K rfl) (by rfl) m.len PySem.boot_len (pa_cons (pv 4) pa_nil))) (nomark _)) (pss_one (ps_ret pe_bl)) pss_nil)
        (pss_cons (ps_asg (pe_tup (pa_cons (pe_ix (ix_K K rfl) (pv 3) (pe_callD d__law_pick (hr.mono (by decide)) (by rfl) (pa_cons (pv 1) (pa_cons (pe_callB (len_K K rfl) (by rfl) m.len PySem.boot_len (pa_cons (pv 3) pa_nil)) pa_nil))) (fun _ _ => rfl)) (pa_cons (pe_ix (ix_K K rfl) (pv 3) (pe_callD d__law_pick (hr.mono (by decide)) (by rfl) (pa_cons (pv 1) (pa_cons (pe_callB (len_K K rfl) (by rfl) m.len PySem.boot_len (pa_cons (pv 3) pa_nil)) pa_nil))) (fun _ _ => rfl)) pa_nil))) (tup_K K rfl rfl (pgs_cons (pg_name (i := 5) sc_law.nd rfl (Or.inr rfl)) (pgs_cons (pg_name (i := 6) sc_law.nd rfl (Or.inl rfl)) pgs_nil))))
        (pss_cons (ps_set (i := 7) sc_law.nd rfl (.inl rfl) (pe_ix (ix_K K rfl) (pe_lc (own := [("x", 13)]) rfl sc_law.nd (seq_K K rfl (pv 3)) (blkOk_by (N := ["script", "pool", "p", "units", "own", "q", "r", "back", "other", "told", "row", "a", "b", "x"]) (sc := defScope s_law) (by decide +kernel)) (fun _ _ _ _ _ => (pg_name (i := 13) sc_law.nd rfl (Or.inl rfl))) (fun _ _ _ _ _ => (pts_one (pt_cmpR (op_eqK K rfl hr.units) (pe_op op_mod (pe_op op_sub (pe_op op_mul (pv 13) (pv 5)) pe_int) (pv 2)) pe_int (nomark _)))) (fun _ _ _ _ _ => (pv 13))) pe_int (fun _ _ => rfl)))
        (pss_cons (ps_for PassesOwn.never rfl (seq_K K rfl (pe_tup (pa_cons (pv 5) (pa_cons (pv 6) (pa_cons (pv 7) (pa_cons (pe_op op_sub (pv 2) (pv 5)) (pa_cons (pe_op op_sub (pv 2) (pv 7)) pa_nil))))))) (pg_name (i := 8) sc_law.nd rfl (Or.inl rfl)) (pss_cons (ps_set (i := 9) sc_law.nd rfl (.inl rfl) (pe_callD d_bridge_paper (hr.mono (by decide)) (by rfl) (pa_cons (pv 2) (pa_cons (pv 5) (pa_cons (pv 8) pa_nil)))))
        (pss_cons (ps_if (PW.pt (pw_or (pt_cmpR (op_neK K rfl hr.units) (pe_cmpR (op_eqK K rfl hr.units) (pe_ix (ix_K K rfl) (pv 9) pe_int (fun _ _ => rfl)) pe_str (nomark _)) (pe_cmpR (op_inK K rfl hu5) (pv 8) (pe_tup (pa_cons (pv 5) (pa_cons (pv 7) pa_nil))) (by rfl)) (nomark _)) (pw_or (pt_cmpR (op_neK K rfl hr.units) (pe_ix (ix_K K rfl) (pe_callD d_bridge_paper (hr.mono (by decide)) (by rfl) (pa_cons (pv 2) (pa_cons (pv 8) (pa_cons (pv 5) pa_nil)))) pe_int (fun _ _ => rfl)) (pe_ix (ix_K K rfl) (pv 9) pe_int (fun _ _ => rfl)) (nomark _)) (pw_or1 (pt_cmpR op_notBl (pe_callD d_check_bridge (hr.mono (by decide)) (by rfl) (pa_cons (pv 2) (pa_cons (pv 5) (pa_cons (pv 8) (pa_cons (pv 9) pa_nil))))) pe_bl (nomark _)))))) (pss_one (ps_ret pe_bl)) pss_nil)
        (pss_one (ps_if (PW.pt (pw_or (pt_cmpR (op_neK K rfl hr.units) (pe_ix (ix_K K rfl) (pe_callD d_bridge_paper (hr.mono (by decide)) (by rfl) (pa_cons (pv 2) (pa_cons (pe_op op_sub (pv 2) (pv 5)) (pa_cons (pe_op op_sub (pv 2) (pv 8)) pa_nil)))) pe_int (fun _ _ => rfl)) (pe_ix (ix_K K rfl) (pv 9) pe_int (fun _ _ => rfl)) (nomark _)) (pw_or1 (pt_cmpR (op_neK K rfl hr.units) (pe_ix (ix_K K rfl) (pe_callD d_bridge_paper (hr.mono (by decide)) (by rfl) (pa_cons (pv 2) (pa_cons (pv 7) (pa_cons (pv 8) pa_nil)))) pe_int (fun _ _ => rfl)) (pe_ix (ix_K K rfl) (pv 9) pe_int (fun _ _ => rfl)) (nomark _))))) (pss_one (ps_ret pe_bl)) pss_nil)))))
        (pss_cons (ps_if (PW.pt (pw_or (pt_cmpR (op_neK K rfl hr.units) (pe_callD d_is_own_mirror (hr.mono (by decide)) (by rfl) (pa_cons (pv 2) (pa_cons (pv 5) pa_nil))) (pe_cmpR (op_eqK K rfl hr.units) (pe_ix (ix_K K rfl) (pe_callD d_bridge_paper (hr.mono (by decide)) (by rfl) (pa_cons (pv 2) (pa_cons (pv 5) (pa_cons (pe_op op_sub (pv 2) (pv 5)) pa_nil)))) pe_int (fun _ _ => rfl)) pe_str (nomark _)) (nomark _)) (pw_or (pt_cmpR (op_neK K rfl hr.units) (pe_callD d_is_own_mirror (hr.mono (by decide)) (by rfl) (pa_cons (pv 2) (pa_cons (pe_op op_sub (pv 2) (pv 5)) pa_nil))) (pe_callD d_is_own_mirror (hr.mono (by decide)) (by rfl) (pa_cons (pv 2) (pa_cons (pv 5) pa_nil))) (nomark _)) (pw_or1 (pt_cmpR (op_neK K rfl hr.units) (pe_callD d_is_own_mirror (hr.mono (by decide)) (by rfl) (pa_cons (pv 2) (pa_cons (pv 7) pa_nil))) (pe_callD d_is_own_mirror (hr.mono (by decide)) (by rfl) (pa_cons (pv 2) (pa_cons (pv 5) pa_nil))) (nomark _)))))) (pss_one (ps_ret pe_bl)) pss_nil)
        (pss_cons (ps_set (i := 10) sc_law.nd rfl (.inl rfl) (pe_callD d_odd_row (hr.mono (by decide)) (by rfl) (pa_cons (pv 2) (pa_cons (pv 5) pa_nil))))
        (pss_cons (ps_if (PW.pt (pw_or (pt_cmpR (op_neK K rfl hr.units) (pe_callD d_fraction (hr.mono (by decide)) (by rfl) (pa_cons (pv 10) pa_nil)) (pe_tup (pa_cons (pv 2) (pa_cons (pv 5) pa_nil))) (nomark _)) (pw_or (pt_cmpR (op_neK K rfl hr.units) (pe_callD d_fraction (hr.mono (by decide)) (by rfl) (pa_cons (pe_callD d_row_for (hr.mono (by decide)) (by rfl) (pa_cons (pv 2) (pa_cons (pv 5) pa_nil))) pa_nil)) (pe_tup (pa_cons (pv 2) (pa_cons (pv 5) pa_nil))) (nomark _)) (pw_or (pt_cmpR (op_neK K rfl hr.units) (pe_op op_mod (pe_callB (len_K K rfl) (by rfl) m.len PySem.boot_len (pa_cons (pv 10) pa_nil)) pe_int) pe_int (nomark _)) (pw_or1 (pt_cmpR (op_niK K rfl hu5) (pe_callD d_fraction (hr.mono (by decide)) (by rfl) (pa_cons (pe_callTy (tupOf_K K rfl) (by rfl) m.tuple (by decide +kernel) (pa_cons (pe_lc (own := [("x", 13)]) rfl sc_law.nd (seq_K K rfl (pv 10)) (blkOk_by (N := ["script", "pool", "p", "units", "own", "q", "r", "back", "other", "told", "row", "a", "b", "x"]) (sc := defScope s_law) (by decide +kernel)) (fun _ _ _ _ _ => (pg_name (i := 13) sc_law.nd rfl (Or.inl rfl))) (fun _ _ _ _ _ => pts_nil) (fun _ _ _ _ _ => (pe_un un_neg (pv 13)))) pa_nil)) pa_nil)) (pe_tup (pa_cons (pe_tup (pa_cons (pv 2) (pa_cons (pe_un un_neg (pv 5)) pa_nil))) (pa_cons (pe_tup (pa_cons (pe_un un_neg (pv 2)) (pa_cons (pv 5) pa_nil))) pa_nil))) (by rfl))))))) (pss_one (ps_ret pe_bl)) pss_nil)
        (pss_cons (ps_asg (pe_callD d_fraction (hr.mono (by decide)) (by rfl) (pa_cons (rev_K K rfl (pv 10)) pa_nil)) (tup_K K rfl rfl (pgs_cons (pg_name (i := 11) sc_law.nd rfl (Or.inl rfl)) (pgs_cons (pg_name (i := 12) sc_law.nd rfl (Or.inl rfl)) pgs_nil))))
        (pss_cons (ps_if (PW.pt (pw_or (pt_cmpR (op_neK K rfl hr.units) (pv 11) (pv 2) (nomark _)) (pw_or (pt_cmpR op_notBl (pe_callD d_check_bridge (hr.mono (by decide)) (by rfl) (pa_cons (pv 2) (pa_cons (pv 5) (pa_cons (pe_op op_mod (pe_callTy call_int1 (by rfl) m.int (by decide +kernel) (pa_cons (pv 12) pa_nil)) (pv 2)) (pa_cons (pe_tup (pa_cons pe_str (pa_cons pe_int pa_nil))) pa_nil))))) pe_bl (nomark _)) (pw_or1 (pt_cmpR op_lt (pe_callB (min_K K rfl rfl hu5) (by rfl) m.min (by decide +kernel) (pa_cons (pv 10) pa_nil)) pe_int (nomark _)))))) (pss_one (ps_ret pe_bl)) pss_nil)
        (pss_one (ps_ret (pe_and (pe_cmpR (op_eqK K rfl hr.units) (pe_callD d_fraction (hr.mono (by decide)) (by rfl) (pa_cons (pe_op (op_addK K rfl) (pv 10) (pe_tup (pa_cons pe_int pa_nil))) pa_nil)) (pe_tup (pa_cons (pv 5) (pa_cons (pv 2) pa_nil))) (nomark _)) (pe_one (pe_cmpR (op_eqK K rfl hr.units) (pe_callD d_fraction (hr.mono (by decide)) (by rfl) (pa_cons (pe_op (op_addK K rfl) (pv 10) (pe_tup (pa_cons pe_int pa_nil))) pa_nil)) (pe_tup (pa_cons (pe_op (op_addK K rfl) (pe_op op_mul pe_int (pv 2)) (pv 5)) (pa_cons (pv 2) pa_nil))) (nomark _))))))))))))))))))), ?_⟩
  obtain ⟨ns, r, hl, q⟩ := h
  try dsimp only [cxOf, Cx.nox, Cx.wish]
  suffices hrun : Run K H _ [.im (lI ns), .no, .no, .no, .no, .no, .no, .no, .no, .no, .no, .no, .no, .no] ⟨fun _ => False, fun v _ => v = .bl true, fun _ => False, fun _ => False⟩ from
    hrun H (Evl.Ex.refl H) _ _ H (start_sb (N := ["script", "pool", "p", "units", "own", "q", "r", "back", "other", "told", "row", "a", "b", "x"]) r) (fun _ _ _ _ z => z.elim) (fun v H' z => z ▸ q H') (fun _ _ _ _ z => z.elim) (fun _ _ _ _ z => z.elim)
  have hns := noLs_ints
  refine run_seq (run_setPool (by walk_at "ev") hl (Nat.le_of_ble_eq_true rfl) ?_)
  dsimp only [List.set]
  refine run_seq (run_setX (xv_add (a := 2) (xv_call (ok := okPick) (Fr := frPick) (cost := 1) (ds := [.int 59]) (m := 0) rfl (by walk_at "ev") ⟨59, rfl, by decide⟩ (by omega)) (fun d ⟨n, i, _, h, _⟩ => ⟨i, h⟩)) (Nat.le_of_ble_eq_true rfl) ?_)
  rintro d ⟨i, ⟨n, i', h1, h2, h3, h4⟩, rfl⟩
  cases h1
  cases h2
  obtain ⟨p, hpi⟩ : ∃ p, p = 2 + i := ⟨_, rfl⟩
  rw [← hpi]
  have hp : 2 ≤ p ∧ p < 61 := by omega
  clear hpi h3 h4
  dsimp only [List.set]
  change Run K H _ [.im (lI ns), .pl 1, .im (.int p), .no, .no, .no, .no, .no, .no, .no, .no, .no, .no, .no] _
  have hlu := units_len p
  refine run_seq (run_setFi (ds := (units p).map .int) (ef_lc (rgI 1 (p - 1).toNat) .int (fun x => [(5, .int x)]) (fun q => decide (((Int.gcd q p : Nat) : Int) = 1)) .int (it_rng2 (lo := 1) (n := p) (by walk_at "ev") (by omega)) (fun _ _ => tg_name) (fun _ _ p hp => by
      rw [List.mem_singleton.mp hp]; simp) (fun a ha => by walk_at "ev") (fun a ha _ => em_R rfl (by walk_at "ev")) (by rw [rgI_length]; omega)) (noLs_ints _) (Nat.le_of_ble_eq_true rfl) ?_)
  dsimp only [List.set]
  refine run_seq (run_setFi (ds := ((units p).filter fun q => decide ((q * q - 1) % p = 0)).map .int) (ef_lc (units p) .int (fun x => [(5, .int x)]) (fun q => decide ((q * q - 1) % p = 0)) .int (it_seqL (ev_var rfl)) (fun _ _ => tg_name) (fun _ _ p hp => by
      rw [List.mem_singleton.mp hp]; simp) (fun a ha => ?_) (fun a ha _ => em_R rfl (by walk_at "ev")) (by omega)) (noLs_ints _) (Nat.le_of_ble_eq_true rfl) ?_)
  · have := mem_units ha
    have hm : CMul a a := .inl ⟨by omega, by omega⟩
    walk_at "ev"
    · exact hm
    · omega
  dsimp only [List.set]
  have hcl := count_ok hp
  refine run_seq (run_if (b := false) (EvB.to (b := !decide (2 * countL p = ((units p).length : Int) + (((units p).filter fun q => decide ((q * q - 1) % p = 0)).length : Int)))
    (KW.eb_test (ev_opR (ev_opR ev_int (ev_call (by walk_at "ev") ⟨p, rfl, ⟨by omega, by omega, fun q hq => invs_ne hp hq⟩, rfl⟩) (rv_mul (.inl ⟨by omega, by omega⟩))) (by walk_at "ev") rv_neI)) (by rw [decide_eq_true hcl]; rfl)) (fun z => by cases z) fun _ => run_nx ?_)
  have hpos : 0 < (units p).length := by
    have h1 : (1 : Int) ∈ units p := List.mem_filter.mpr ⟨mem_rgI.mpr (by omega), by simp⟩
    exact List.length_pos_of_mem h1
  have hpick : ∀ d, frPick [.int (((units p).length : Nat) : Int)] d → ∃ i : Nat, d = .int (i : Int) ∧ i < ((units p).map PyData.int).length := by
    rintro d ⟨n, i, h1, rfl, h2, h3⟩
    cases h1
    exact ⟨i.toNat, by rw [Int.toNat_of_nonneg h2], by rw [List.length_map]; omega⟩
  have hget : ∀ d, (∃ i : Nat, frPick [.int (((units p).length : Nat) : Int)] (.int (i : Int)) ∧ ((units p).map PyData.int)[i]? = some d) → ∃ q, q ∈ units p ∧ d = .int q := by
    rintro d ⟨i, _, h⟩
    have := List.mem_of_getElem? h
    obtain ⟨q, hq, rfl⟩ := List.mem_map.mp this
    exact ⟨q, hq, rfl⟩
  refine run_seq (run_tup2X (xv_ix (ds := (units p).map .int) rfl (noLs_ints _) (xv_call (ok := okPick) (Fr := frPick) (cost := 1) (ds := [.int (((units p).length : Nat) : Int)]) (m := 1) rfl (by walk_at "ev") ⟨_, rfl, by omega⟩ (by omega)) hpick)
    (xv_ix (ds := (units p).map .int) rfl (noLs_ints _) (xv_call (ok := okPick) (Fr := frPick) (cost := 1) (ds := [.int (((units p).length : Nat) : Int)]) (m := 2) rfl (by walk_at "ev") ⟨_, rfl, by omega⟩ (by omega)) hpick) (Nat.le_of_ble_eq_true rfl) (Nat.le_of_ble_eq_true rfl) ?_)
  intro d e hd he
  obtain ⟨q, hq, rfl⟩ := hget d hd
  obtain ⟨r', hr', rfl⟩ := hget e he
  clear hd he hget hpick
  dsimp only [List.set]
  change Run K H _ [.im (lI ns), .pl 3, .im (.int p), .im (lI (units p)), .im (lI ((units p).filter fun q => decide ((q * q - 1) % p = 0))), .im (.int q), .im (.int r'), .no, .no, .no, .no, .no, .no, .no] _
  obtain ⟨f1, f2, f3, f4, f5, f6, f7, f8, f9⟩ := facts hp hq
  have uq := mem_units hq
  refine run_seq (run_setR (d := .int (inv q p)) (ev_opR (EvF.r (ef_lc (units p) .int (fun x => [(13, .int x)]) (fun x => decide ((x * q - 1) % p = 0)) .int (it_seqL (ev_var rfl)) (fun _ _ => tg_name) (fun _ _ p hp => by
      rw [List.mem_singleton.mp hp]; simp) (fun a ha => ?_) (fun a ha _ => em_R rfl (by walk_at "ev")) (by omega))) ev_int (rv_ixL ?_)) rfl (Nat.le_of_ble_eq_true rfl) ?_)
  · have := mem_units ha
    have hm : CMul a q := .inl ⟨by omega, by omega⟩
    walk_at "ev"
    · exact hm
    · omega
  · show atI ((backs p q).map PyData.int) 0 = _
    have := f1
    cases h : backs p q with
    | nil => rw [h] at this; cases this
    | cons x xs => rw [h] at this; cases this; exact atI_nat (j := 0) rfl
  dsimp only [List.set]
  generalize hbk : inv q p = bk at f1 f2 f3 f5 f8
  have ub := mem_units f3
  have g2 := (facts hp f3).2.1
  have gn := (facts hp f4).2.1
  have br : ∀ {x o : Int}, x ∈ units p → frBridge [.int p, .int x, .int o] (toldOf (kindS p x o)) := fun {x o} hx => ⟨p, x, o, rfl, ⟨by omega, by omega, invs_ne hp hx⟩, by rw [kind_eq (facts hp hx).2.1]⟩
  refine run_seq (run_for [q, r', bk, p - q, p - bk] .int (fun k => [(8, .int k)]) (its_seqT (ds := [.int q, .int r', .int bk, .int (p - q), .int (p - bk)]) (by walk_at "ev") rfl) (fun _ _ => tg_name)
    (fun _ S' => ∃ e8 e9, S' = [.im (lI ns), .pl 3, .im (.int p), .im (lI (units p)), .im (lI ((units p).filter fun q => decide ((q * q - 1) % p = 0))), .im (.int q), .im (.int r'), .im (.int bk), e8, e9, .no, .no, .no, .no]) ⟨_, _, rfl⟩ ?_ ?_ ?_)
  · rintro i k S' _ ⟨e8, e9, rfl⟩ z hz
    rw [List.mem_singleton.mp hz]
    exact Nat.le_of_ble_eq_true rfl
  · rintro i o S' ho ⟨e8, e9, rfl⟩
    have ho : o ∈ units p := by
      have := List.mem_of_getElem? ho
      simp only [List.mem_cons, List.not_mem_nil, or_false] at this
      rcases this with rfl | rfl | rfl | rfl | rfl <;> assumption
    have uo := mem_units ho
    change Run K H _ [.im (lI ns), .pl 3, .im (.int p), .im (lI (units p)), .im (lI ((units p).filter fun q => decide ((q * q - 1) % p = 0))), .im (.int q), .im (.int r'), .im (.int bk), .im (.int o), e9, .no, .no, .no, .no] _
    refine run_seq (run_setR (d := toldOf (kindS p q o)) (ev_call (by walk_at "ev") (br hq)) (noL_told _) (Nat.le_of_ble_eq_true rfl) ?_)
    dsimp only [List.set]
    have kv := kindS_vals p q o
    have hin := kindS_in f2 ⟨by omega, uq.2⟩ ⟨by omega, ub.2⟩ ⟨by omega, uo.2⟩
    refine run_seq (run_if (b := false) (KW.eb_or (b := false) (c := false) (EvB.to (b := !((toldS (kindS p q o) == ("same" : Str)) == decide (o ∈ [q, bk])))
        (KW.eb_test (ev_opR (ev_opR (ev_opR (ev_var rfl) ev_int rv_told) ev_str (rv_eqS (sh_told _) sh_same)) (ev_opR (ev_var rfl) (ev_tupR (eas_cons (ev_var rfl) (eas_cons (ev_var rfl) eas_nil)) rfl) (rv_inTI (ns := [q, bk]))) rv_neB)) ?_) fun _ =>
      KW.eb_or (b := false) (c := false) (EvB.to (b := !(toldS (kindS p o q) == toldS (kindS p q o))) (KW.eb_test (ev_opR (ev_opR (ev_call (by walk_at "ev") (br ho)) ev_int rv_told) (ev_opR (ev_var rfl) ev_int rv_told) (rv_neS (sh_told _) (sh_told _)))) ?_) fun _ =>
      EvB.to (b := !decide (checkB p q o (kindS p q o) = true)) (KW.eb_test (ev_opR (ev_call (by walk_at "ev") ⟨p, q, o, _, rfl, ⟨by omega, by omega, by omega, kv⟩, rfl⟩) ev_bool rv_notB)) ?_) (fun z => by cases z) fun _ => run_nx ?_)
    · have e : decide (kindS p q o < 2) = decide (o ∈ [q, bk]) := decide_eq_decide.mpr hin
      rw [told_same kv, e]
      simp
    · rw [told_eq (kindS_vals _ _ _) kv (by rw [kindS_sym])]; rfl
    · rw [check_kind]; rfl
    refine run_if (b := false) (KW.eb_or (b := false) (c := false) (EvB.to (b := !(toldS (kindS p (p - q) (p - o)) == toldS (kindS p q o))) (KW.eb_test (ev_opR (ev_opR (ev_call (by walk_at "ev") (br f4)) ev_int rv_told) (ev_opR (ev_var rfl) ev_int rv_told) (rv_neS (sh_told _) (sh_told _)))) ?_) fun _ =>
      EvB.to (b := !(toldS (kindS p bk o) == toldS (kindS p q o))) (KW.eb_test (ev_opR (ev_opR (ev_call (by walk_at "ev") (br f3)) ev_int rv_told) (ev_opR (ev_var rfl) ev_int rv_told) (rv_neS (sh_told _) (sh_told _)))) ?_) (fun z => by cases z) fun _ => run_nx ⟨_, _, rfl⟩
    · rw [told_eq (kindS_vals _ _ _) kv (by rw [kindS_neg])]; rfl
    · rw [told_eq (kindS_vals _ _ _) kv (kindS_back f2)]; rfl
  rintro S' ⟨e8, e9, rfl⟩
  have mr : ∀ {x : Int}, x ∈ units p → frMir [.int p, .int x] (.bool (mirB p x)) := fun {x} hx => by
    have := mem_units hx
    exact ⟨p, x, rfl, ⟨by omega, by omega, by omega⟩, rfl⟩
  refine run_seq (run_if (b := false) (KW.eb_or (b := false) (c := false) (EvB.to (b := !(mirB p q == (toldS (kindS p q (p - q)) == ("same" : Str))))
      (KW.eb_test (ev_opR (ev_call (by walk_at "ev") (mr hq)) (ev_opR (ev_opR (ev_call (by walk_at "ev") (br hq)) ev_int rv_told) ev_str (rv_eqS (sh_told _) sh_same)) rv_neB)) ?_) fun _ =>
    KW.eb_or (b := false) (c := false) (EvB.to (b := !(mirB p (p - q) == mirB p q)) (KW.eb_test (ev_opR (ev_call (by walk_at "ev") (mr f4)) (ev_call (by walk_at "ev") (mr hq)) rv_neB)) ?_) fun _ =>
    EvB.to (b := !(mirB p bk == mirB p q)) (KW.eb_test (ev_opR (ev_call (by walk_at "ev") (mr f3)) (ev_call (by walk_at "ev") (mr hq)) rv_neB)) ?_) (fun z => by cases z) fun _ => run_nx ?_)
  · rw [told_same (kindS_vals _ _ _), f6]; simp
  · rw [f7]; simp
  · rw [f8]; simp
  obtain ⟨r1, r2, r3, r4, r5, r6, r7, r8, r9, r10, r11, r12, r13⟩ := row_facts f9
  refine run_seq (run_setR (d := tI (oddF p q)) (ev_call (by walk_at "ev") ⟨p, q, rfl, ⟨by omega, by omega, by omega, r11⟩, rfl⟩) (noL_tI _) (Nat.le_of_ble_eq_true rfl) ?_)
  dsimp only [List.set]
  generalize oddF p q = row at r1 r3 r4 r5 r6 r7 r8 r9 r10 r13 ⊢
  have b0 : ∀ x ∈ row, -1000 ≤ x ∧ x ≤ 1000 := fun x hx => by have := r8 x hx; omega
  have bn : ∀ x ∈ row.map fun x => -x, -1000 ≤ x ∧ x ≤ 1000 := fun x hx => by
    obtain ⟨y, hy, rfl⟩ := List.mem_map.mp hx
    have := r8 y hy
    omega
  refine run_seq (run_if (b := false) (KW.eb_or (b := false) (c := false) (EvB.to (b := !decide ([(frac row).1, (frac row).2] = [p, q])) (KW.eb_test (ev_opR (ev_call (by walk_at "ev") ⟨row, rfl, b0, rfl⟩) (ev_tupR (eas_cons (ev_var rfl) (eas_cons (ev_var rfl) eas_nil)) rfl) (rv_neT (ys := [p, q])))) ?_) fun _ =>
    KW.eb_or (b := false) (c := false) (EvB.to (b := !decide ([(frac (rowF p q)).1, (frac (rowF p q)).2] = [p, q])) (KW.eb_test (ev_opR (ev_call (ds := [tI (rowF p q)]) (eas_cons (ev_call (by walk_at "ev") ⟨p, q, rfl, ⟨by omega, by omega, by omega⟩, rfl⟩) eas_nil) ⟨rowF p q, rfl, fun x hx => by have := r12 x hx; omega, rfl⟩) (ev_tupR (eas_cons (ev_var rfl) (eas_cons (ev_var rfl) eas_nil)) rfl) (rv_neT (ys := [p, q])))) ?_) fun _ =>
    KW.eb_or (b := false) (c := false) (EvB.to (b := !decide ((row.length : Int) % 2 = 1)) (KW.eb_test (ev_opR (ev_opR (ev_cbR (eas_cons (ev_var rfl) eas_nil) rc_lenTI) ev_int (rv_mod (by decide))) ev_int rv_neI)) ?_) fun _ =>
    EvB.to (b := !decide ([(frac (row.map fun x => -x)).1, (frac (row.map fun x => -x)).2] ∈ [[p, -q], [-p, q]])) (KW.eb_test (ev_opR (ev_call (ds := [tI (row.map fun x => -x)]) (eas_cons (ev_cbR (ds := [lI (row.map fun x => -x)]) (eas_cons (EvF.r (EvF.to (ef_lc row .int (fun x => [(13, .int x)]) (fun _ => true) (fun x => .int (-x)) (it_seqT (ev_var rfl)) (fun _ _ => tg_name) (fun _ _ p hp => by
      rw [List.mem_singleton.mp hp]; simp) (fun a ha => fun σ H E Q q => q H (Evl.Ex.refl H)) (fun a ha _ => em_R rfl (by walk_at "ev")) (by omega)) ?_)) eas_nil) rc_tupL) eas_nil) ⟨_, rfl, bn, rfl⟩) (ev_tupR (ds := [tI [p, -q], tI [-p, q]]) (eas_cons (ev_tupR (ds := [.int p, .int (-q)]) (by walk_at "ev") rfl) (eas_cons (ev_tupR (ds := [.int (-p), .int q]) (by walk_at "ev") rfl) eas_nil)) rfl) (rv_niTT (xss := [[p, -q], [-p, q]])))) ?_) (fun z => by cases z) fun _ => run_nx ?_)
  · rw [r1]; simp
  · rw [r2]; simp
  · rw [decide_eq_true r3]; rfl
  · rw [List.filter_eq_self.mpr (fun _ _ => rfl), List.map_map]
    rfl
  · rcases r5 with r5 | r5 <;> rw [r5] <;> simp
  refine run_seq (run_unpack (d := tI [(frac row.reverse).1, (frac row.reverse).2]) (js := [(11, .int (frac row.reverse).1), (12, .int (frac row.reverse).2)]) (ev_call (ds := [tI row.reverse]) (eas_cons (EvR.to (ev_revD (ev_var rfl) (RevD.tup _)) (by rw [rev_ints])) eas_nil) ⟨row.reverse, rfl, fun x hx => b0 x (List.mem_reverse.mp hx), rfl⟩) rfl (tg_tup (tgl_cons tg_name (tgl_cons tg_name tgl_nil)) rfl) (fun p hp => by
    simp only [List.mem_cons, List.not_mem_nil, or_false] at hp
    rcases hp with rfl | rfl <;> exact Nat.le_of_ble_eq_true rfl) ?_)
  generalize frac row.reverse = ab at r6 r7
  obtain ⟨a, b⟩ := ab
  change Run K H _ [.im (lI ns), .pl 3, .im (.int p), .im (lI (units p)), .im (lI ((units p).filter fun q => decide ((q * q - 1) % p = 0))), .im (.int q), .im (.int r'), .im (.int bk), e8, e9, .im (tI row), .im (.int a), .im (.int b), .no] _
  obtain ⟨n0, row', rfl⟩ : ∃ n0 row', row = n0 :: row' := by
    cases row with
    | nil => exact absurd rfl r13
    | cons x xs => exact ⟨x, xs, rfl⟩
  have hmin : 0 ≤ row'.foldl min n0 := by
    have : ∀ (l : List Int) (a : Int), 0 ≤ a → (∀ x ∈ l, 0 ≤ x) → 0 ≤ l.foldl min a := by
      intro l
      induction l with
      | nil => intro a h _; exact h
      | cons x l ih => intro a h hl; exact ih _ (by have := hl x (by simp); omega) (fun y hy => hl y (by simp [hy]))
    exact this row' n0 (r8 n0 (by simp)).1 (fun x hx => (r8 x (by simp [hx])).1)
  refine run_seq (run_if (b := false) (KW.eb_or (b := false) (c := false) (EvB.to (b := !decide (a = p)) (by walk_at "ev") ?_) fun _ =>
    KW.eb_or (b := false) (c := false) (EvB.to (b := !decide (checkB p q (b % p) 1 = true)) (KW.eb_test (ev_opR (ev_call (ds := [.int p, .int q, .int (b % p), toldOf 1]) (eas_cons (ev_var rfl) (eas_cons (ev_var rfl) (eas_cons (ev_opR (ev_cbR (eas_cons (ev_var rfl) eas_nil) rc_intI) (ev_var rfl) (rv_mod (by omega))) (eas_cons (ev_tupR (ds := [.str "same", .int 1]) (eas_cons ev_str (eas_cons ev_int eas_nil)) rfl) eas_nil)))) ⟨p, q, b % p, 1, rfl, ⟨by omega, by omega, by omega, .inr (.inl rfl)⟩, rfl⟩) ev_bool rv_notB)) ?_) fun _ =>
    EvB.to (b := decide (row'.foldl min n0 < 0)) (KW.eb_test (ev_opR (ev_cbR (eas_cons (ev_var rfl) eas_nil) rc_minT) ev_int rv_lt)) ?_) (fun z => by cases z) fun _ => run_nx ?_)
  · rw [decide_eq_true r6]; rfl
  · rw [r7]; rfl
  · exact decide_eq_false (by omega)
  generalize n0 :: row' = row at r1 r3 r4 r5 r8 r9 r10 r13 b0 bn ⊢
  have bz : ∀ y : Int, 0 ≤ y ∧ y ≤ 3 → ∀ x ∈ row ++ [y], -1000 ≤ x ∧ x ≤ 1000 := fun y hy x hx => by
    rcases List.mem_append.mp hx with hx | hx
    · exact b0 x hx
    · rw [List.mem_singleton.mp hx]; omega
  refine run_retR (d := .bool true) (EvR.to (KW.ev_and (b := true) (c := true) (EvR.to (ev_opR (ev_call (ds := [tI (row ++ [0])]) (eas_cons (EvR.to (ev_opR (ev_var rfl) (ev_tupR (eas_cons ev_int eas_nil) rfl) (rv_addT ?_)) ?_) eas_nil) ⟨_, rfl, bz 0 (by omega), rfl⟩) (ev_tupR (eas_cons (ev_var rfl) (eas_cons (ev_var rfl) eas_nil)) rfl) (rv_eqT (ys := [q, p]))) ?_) fun _ =>
    EvR.to (ev_opR (ev_call (ds := [tI (row ++ [3])]) (eas_cons (EvR.to (ev_opR (ev_var rfl) (ev_tupR (eas_cons ev_int eas_nil) rfl) (rv_addT ?_)) ?_) eas_nil) ⟨_, rfl, bz 3 (by omega), rfl⟩) (ev_tupR (ds := [.int (3 * p + q), .int p]) (eas_cons (ev_opR (ev_opR ev_int (ev_var rfl) (rv_mul (.inl ⟨by omega, by omega⟩))) (ev_var rfl) rv_add) (eas_cons (ev_var rfl) eas_nil)) rfl) (rv_eqT (ys := [3 * p + q, p]))) ?_) rfl) fun v H' e r => r.bool
  · rw [List.length_map]; show row.length + 1 ≤ _; omega
  · exact (tI_snoc row _).symm
  · rw [r9]; simp
  · rw [List.length_map]; show row.length + 1 ≤ _; omega
  · exact (tI_snoc row _).symm
  · rw [r10]; simp
end
end K70

/-! what the top has written; the head -/
namespace K70
open PySem PySem.Spec PyProof.Rows L2 KW
theorem arg_list {K : PySem.W.Frag} {H : Hp} {a : Addr} {ns : List Int} (h : SqL K H a (ns.map V.int)) : RpAll K H [.ref a] [lI ns] := .cons (.inl (.lst h (DpAll.of_ints _))) .nil
set_option maxHeartbeats 0 in
theorem all_mk {l : PySem.W.OpenLaw} {w : World} {K : PySem.W.Frag} {h : Heap} {mg : Str → Option Value} {fa : Addr} (X : K.In h) (G : h.Ns mainGlobals mg) (hfa : mg "law" = some (.ref fa))
    {f__law_cell : Addr} {od__law_cell an__law_cell : Option Addr} {sl__law_cell : Array (Option Value)} {oc__law_cell kV__law_cell dc__law_cell pm__law_cell cd__law_cell ct__law_cell : Value}
    {f__law_draws : Addr} {od__law_draws an__law_draws : Option Addr} {sl__law_draws : Array (Option Value)} {oc__law_draws kV__law_draws dc__law_draws pm__law_draws cd__law_draws ct__law_draws : Value}
    {f__law_pool : Addr} {od__law_pool an__law_pool : Option Addr} {sl__law_pool : Array (Option Value)} {oc__law_pool kV__law_pool dc__law_pool pm__law_pool cd__law_pool ct__law_pool : Value}
    {f__law_pick : Addr} {od__law_pick an__law_pick : Option Addr} {sl__law_pick : Array (Option Value)} {oc__law_pick kV__law_pick dc__law_pick pm__law_pick cd__law_pick ct__law_pick : Value}
    {f_is_whole : Addr} {od_is_whole an_is_whole : Option Addr} {sl_is_whole : Array (Option Value)} {oc_is_whole kV_is_whole dc_is_whole pm_is_whole cd_is_whole ct_is_whole : Value}
    {f_is_from : Addr} {od_is_from an_is_from : Option Addr} {sl_is_from : Array (Option Value)} {oc_is_from kV_is_from dc_is_from pm_is_from cd_is_from ct_is_from : Value}
    {f_is_named : Addr} {od_is_named an_is_named : Option Addr} {sl_is_named : Array (Option Value)} {oc_is_named kV_is_named dc_is_named pm_is_named cd_is_named ct_is_named : Value}
    {f_unlike : Addr} {od_unlike an_unlike : Option Addr} {sl_unlike : Array (Option Value)} {oc_unlike kV_unlike dc_unlike pm_unlike cd_unlike ct_unlike : Value}
    {f_common : Addr} {od_common an_common : Option Addr} {sl_common : Array (Option Value)} {oc_common kV_common dc_common pm_common cd_common ct_common : Value}
    {f__law_gcd : Addr} {od__law_gcd an__law_gcd : Option Addr} {sl__law_gcd : Array (Option Value)} {oc__law_gcd kV__law_gcd dc__law_gcd pm__law_gcd cd__law_gcd ct__law_gcd : Value}
    {f_inverse : Addr} {od_inverse an_inverse : Option Addr} {sl_inverse : Array (Option Value)} {oc_inverse kV_inverse dc_inverse pm_inverse cd_inverse ct_inverse : Value}
    {f_bridge_paper : Addr} {od_bridge_paper an_bridge_paper : Option Addr} {sl_bridge_paper : Array (Option Value)} {oc_bridge_paper kV_bridge_paper dc_bridge_paper pm_bridge_paper cd_bridge_paper ct_bridge_paper : Value}
    {f_check_bridge : Addr} {od_check_bridge an_check_bridge : Option Addr} {sl_check_bridge : Array (Option Value)} {oc_check_bridge kV_check_bridge dc_check_bridge pm_check_bridge cd_check_bridge ct_check_bridge : Value}
    {f_is_own_mirror : Addr} {od_is_own_mirror an_is_own_mirror : Option Addr} {sl_is_own_mirror : Array (Option Value)} {oc_is_own_mirror kV_is_own_mirror dc_is_own_mirror pm_is_own_mirror cd_is_own_mirror ct_is_own_mirror : Value}
    {f_count_links : Addr} {od_count_links an_count_links : Option Addr} {sl_count_links : Array (Option Value)} {oc_count_links kV_count_links dc_count_links pm_count_links cd_count_links ct_count_links : Value}
    {f_fraction : Addr} {od_fraction an_fraction : Option Addr} {sl_fraction : Array (Option Value)} {oc_fraction kV_fraction dc_fraction pm_fraction cd_fraction ct_fraction : Value}
    {f_row_for : Addr} {od_row_for an_row_for : Option Addr} {sl_row_for : Array (Option Value)} {oc_row_for kV_row_for dc_row_for pm_row_for cd_row_for ct_row_for : Value}
    {f_odd_row : Addr} {od_odd_row an_odd_row : Option Addr} {sl_odd_row : Array (Option Value)} {oc_odd_row kV_odd_row dc_odd_row pm_odd_row cd_odd_row ct_odd_row : Value}
    {f_law : Addr} {od_law an_law : Option Addr} {sl_law : Array (Option Value)} {oc_law kV_law dc_law pm_law cd_law ct_law : Value}
    (a__law_cell : PySem.W.nsIn K mainGlobals "_law_cell" = some (some (.ref f__law_cell))) (l__law_cell : K.lookup f__law_cell = some ⟨oc__law_cell, od__law_cell, .func (PySem.W.fnOf "_law_cell" "_law_cell" (defArgs s__law_cell) (defBody s__law_cell) (defScope s__law_cell) .none kV__law_cell dc__law_cell pm__law_cell an__law_cell cd__law_cell ct__law_cell), sl__law_cell⟩) (c__law_cell : PySem.W.codeIn K cd__law_cell "_law_cell" = true) (k__law_cell : PySem.W.keepIn K (.ref f__law_cell) = true)
    (a__law_draws : PySem.W.nsIn K mainGlobals "_law_draws" = some (some (.ref f__law_draws))) (l__law_draws : K.lookup f__law_draws = some ⟨oc__law_draws, od__law_draws, .func (PySem.W.fnOf "_law_draws" "_law_draws" (defArgs s__law_draws) (defBody s__law_draws) (defScope s__law_draws) .none kV__law_draws dc__law_draws pm__law_draws an__law_draws cd__law_draws ct__law_draws), sl__law_draws⟩) (c__law_draws : PySem.W.codeIn K cd__law_draws "_law_draws" = true) (k__law_draws : PySem.W.keepIn K (.ref f__law_draws) = true)
    (a__law_pool : PySem.W.nsIn K mainGlobals "_law_pool" = some (some (.ref f__law_pool))) (l__law_pool : K.lookup f__law_pool = some ⟨oc__law_pool, od__law_pool, .func (PySem.W.fnOf "_law_pool" "_law_pool" (defArgs s__law_pool) (defBody s__law_pool) (defScope s__law_pool) .none kV__law_pool dc__law_pool pm__law_pool an__law_pool cd__law_pool ct__law_pool), sl__law_pool⟩) (c__law_pool : PySem.W.codeIn K cd__law_pool "_law_pool" = true) (k__law_pool : PySem.W.keepIn K (.ref f__law_pool) = true)
    (a__law_pick : PySem.W.nsIn K mainGlobals "_law_pick" = some (some (.ref f__law_pick))) (l__law_pick : K.lookup f__law_pick = some ⟨oc__law_pick, od__law_pick, .func (PySem.W.fnOf "_law_pick" "_law_pick" (defArgs s__law_pick) (defBody s__law_pick) (defScope s__law_pick) .none kV__law_pick dc__law_pick pm__law_pick an__law_pick cd__law_pick ct__law_pick), sl__law_pick⟩) (c__law_pick : PySem.W.codeIn K cd__law_pick "_law_pick" = true) (k__law_pick : PySem.W.keepIn K (.ref f__law_pick) = true)
    (a_is_whole : PySem.W.nsIn K mainGlobals "is_whole" = some (some (.ref f_is_whole))) (l_is_whole : K.lookup f_is_whole = some ⟨oc_is_whole, od_is_whole, .func (PySem.W.fnOf "is_whole" "is_whole" (defArgs s_is_whole) (defBody s_is_whole) (defScope s_is_whole) .none kV_is_whole dc_is_whole pm_is_whole an_is_whole cd_is_whole ct_is_whole), sl_is_whole⟩) (c_is_whole : PySem.W.codeIn K cd_is_whole "is_whole" = true) (k_is_whole : PySem.W.keepIn K (.ref f_is_whole) = true)
    (a_is_from : PySem.W.nsIn K mainGlobals "is_from" = some (some (.ref f_is_from))) (l_is_from : K.lookup f_is_from = some ⟨oc_is_from, od_is_from, .func (PySem.W.fnOf "is_from" "is_from" (defArgs s_is_from) (defBody s_is_from) (defScope s_is_from) .none kV_is_from dc_is_from pm_is_from an_is_from cd_is_from ct_is_from), sl_is_from⟩) (c_is_from : PySem.W.codeIn K cd_is_from "is_from" = true) (k_is_from : PySem.W.keepIn K (.ref f_is_from) = true)
    (a_is_named : PySem.W.nsIn K mainGlobals "is_named" = some (some (.ref f_is_named))) (l_is_named : K.lookup f_is_named = some ⟨oc_is_named, od_is_named, .func (PySem.W.fnOf "is_named" "is_named" (defArgs s_is_named) (defBody s_is_named) (defScope s_is_named) .none kV_is_named dc_is_named pm_is_named an_is_named cd_is_named ct_is_named), sl_is_named⟩) (c_is_named : PySem.W.codeIn K cd_is_named "is_named" = true) (k_is_named : PySem.W.keepIn K (.ref f_is_named) = true)
    (a_unlike : PySem.W.nsIn K mainGlobals "unlike" = some (some (.ref f_unlike))) (l_unlike : K.lookup f_unlike = some ⟨oc_unlike, od_unlike, .func (PySem.W.fnOf "unlike" "unlike" (defArgs s_unlike) (defBody s_unlike) (defScope s_unlike) .none kV_unlike dc_unlike pm_unlike an_unlike cd_unlike ct_unlike), sl_unlike⟩) (c_unlike : PySem.W.codeIn K cd_unlike "unlike" = true) (k_unlike : PySem.W.keepIn K (.ref f_unlike) = true)
    (a_common : PySem.W.nsIn K mainGlobals "common" = some (some (.ref f_common))) (l_common : K.lookup f_common = some ⟨oc_common, od_common, .func (PySem.W.fnOf "common" "common" (defArgs s_common) (defBody s_common) (defScope s_common) .none kV_common dc_common pm_common an_common cd_common ct_common), sl_common⟩) (c_common : PySem.W.codeIn K cd_common "common" = true) (k_common : PySem.W.keepIn K (.ref f_common) = true)
    (a__law_gcd : PySem.W.nsIn K mainGlobals "_law_gcd" = some (some (.ref f__law_gcd))) (l__law_gcd : K.lookup f__law_gcd = some ⟨oc__law_gcd, od__law_gcd, .func (PySem.W.fnOf "_law_gcd" "_law_gcd" (defArgs s__law_gcd) (defBody s__law_gcd) (defScope s__law_gcd) .none kV__law_gcd dc__law_gcd pm__law_gcd an__law_gcd cd__law_gcd ct__law_gcd), sl__law_gcd⟩) (c__law_gcd : PySem.W.codeIn K cd__law_gcd "_law_gcd" = true) (k__law_gcd : PySem.W.keepIn K (.ref f__law_gcd) = true)
    (a_inverse : PySem.W.nsIn K mainGlobals "inverse" = some (some (.ref f_inverse))) (l_inverse : K.lookup f_inverse = some ⟨oc_inverse, od_inverse, .func (PySem.W.fnOf "inverse" "inverse" (defArgs s_inverse) (defBody s_inverse) (defScope s_inverse) .none kV_inverse dc_inverse pm_inverse an_inverse cd_inverse ct_inverse), sl_inverse⟩) (c_inverse : PySem.W.codeIn K cd_inverse "inverse" = true) (k_inverse : PySem.W.keepIn K (.ref f_inverse) = true)
    (a_bridge_paper : PySem.W.nsIn K mainGlobals "bridge_paper" = some (some (.ref f_bridge_paper))) (l_bridge_paper : K.lookup f_bridge_paper = some ⟨oc_bridge_paper, od_bridge_paper, .func (PySem.W.fnOf "bridge_paper" "bridge_paper" (defArgs s_bridge_paper) (defBody s_bridge_paper) (defScope s_bridge_paper) .none kV_bridge_paper dc_bridge_paper pm_bridge_paper an_bridge_paper cd_bridge_paper ct_bridge_paper), sl_bridge_paper⟩) (c_bridge_paper : PySem.W.codeIn K cd_bridge_paper "bridge_paper" = true) (k_bridge_paper : PySem.W.keepIn K (.ref f_bridge_paper) = true)
    (a_check_bridge : PySem.W.nsIn K mainGlobals "check_bridge" = some (some (.ref f_check_bridge))) (l_check_bridge : K.lookup f_check_bridge = some ⟨oc_check_bridge, od_check_bridge, .func (PySem.W.fnOf "check_bridge" "check_bridge" (defArgs s_check_bridge) (defBody s_check_bridge) (defScope s_check_bridge) .none kV_check_bridge dc_check_bridge pm_check_bridge an_check_bridge cd_check_bridge ct_check_bridge), sl_check_bridge⟩) (c_check_bridge : PySem.W.codeIn K cd_check_bridge "check_bridge" = true) (k_check_bridge : PySem.W.keepIn K (.ref f_check_bridge) = true)
    (a_is_own_mirror : PySem.W.nsIn K mainGlobals "is_own_mirror" = some (some (.ref f_is_own_mirror))) (l_is_own_mirror : K.lookup f_is_own_mirror = some ⟨oc_is_own_mirror, od_is_own_mirror, .func (PySem.W.fnOf "is_own_mirror" "is_own_mirror" (defArgs s_is_own_mirror) (defBody s_is_own_mirror) (defScope s_is_own_mirror) .none kV_is_own_mirror dc_is_own_mirror pm_is_own_mirror an_is_own_mirror cd_is_own_mirror ct_is_own_mirror), sl_is_own_mirror⟩) (c_is_own_mirror : PySem.W.codeIn K cd_is_own_mirror "is_own_mirror" = true) (k_is_own_mirror : PySem.W.keepIn K (.ref f_is_own_mirror) = true)
    (a_count_links : PySem.W.nsIn K mainGlobals "count_links" = some (some (.ref f_count_links))) (l_count_links : K.lookup f_count_links = some ⟨oc_count_links, od_count_links, .func (PySem.W.fnOf "count_links" "count_links" (defArgs s_count_links) (defBody s_count_links) (defScope s_count_links) .none kV_count_links dc_count_links pm_count_links an_count_links cd_count_links ct_count_links), sl_count_links⟩) (c_count_links : PySem.W.codeIn K cd_count_links "count_links" = true) (k_count_links : PySem.W.keepIn K (.ref f_count_links) = true)
    (a_fraction : PySem.W.nsIn K mainGlobals "fraction" = some (some (.ref f_fraction))) (l_fraction : K.lookup f_fraction = some ⟨oc_fraction, od_fraction, .func (PySem.W.fnOf "fraction" "fraction" (defArgs s_fraction) (defBody s_fraction) (defScope s_fraction) .none kV_fraction dc_fraction pm_fraction an_fraction cd_fraction ct_fraction), sl_fraction⟩) (c_fraction : PySem.W.codeIn K cd_fraction "fraction" = true) (k_fraction : PySem.W.keepIn K (.ref f_fraction) = true)
    (a_row_for : PySem.W.nsIn K mainGlobals "row_for" = some (some (.ref f_row_for))) (l_row_for : K.lookup f_row_for = some ⟨oc_row_for, od_row_for, .func (PySem.W.fnOf "row_for" "row_for" (defArgs s_row_for) (defBody s_row_for) (defScope s_row_for) .none kV_row_for dc_row_for pm_row_for an_row_for cd_row_for ct_row_for), sl_row_for⟩) (c_row_for : PySem.W.codeIn K cd_row_for "row_for" = true) (k_row_for : PySem.W.keepIn K (.ref f_row_for) = true)
    (a_odd_row : PySem.W.nsIn K mainGlobals "odd_row" = some (some (.ref f_odd_row))) (l_odd_row : K.lookup f_odd_row = some ⟨oc_odd_row, od_odd_row, .func (PySem.W.fnOf "odd_row" "odd_row" (defArgs s_odd_row) (defBody s_odd_row) (defScope s_odd_row) .none kV_odd_row dc_odd_row pm_odd_row an_odd_row cd_odd_row ct_odd_row), sl_odd_row⟩) (c_odd_row : PySem.W.codeIn K cd_odd_row "odd_row" = true) (k_odd_row : PySem.W.keepIn K (.ref f_odd_row) = true)
    (a_law : PySem.W.nsIn K mainGlobals "law" = some (some (.ref f_law))) (l_law : K.lookup f_law = some ⟨oc_law, od_law, .func (PySem.W.fnOf "law" "law" (defArgs s_law) (defBody s_law) (defScope s_law) .none kV_law dc_law pm_law an_law cd_law ct_law), sl_law⟩) (c_law : PySem.W.codeIn K cd_law "law" = true) (k_law : PySem.W.keepIn K (.ref f_law) = true)
    (z_abs : PySem.W.nsIn K mainGlobals "abs" = some none)
    (z_all : PySem.W.nsIn K mainGlobals "all" = some none)
    (z_bool : PySem.W.nsIn K mainGlobals "bool" = some none)
    (z_dict : PySem.W.nsIn K mainGlobals "dict" = some none)
    (z_int : PySem.W.nsIn K mainGlobals "int" = some none)
    (z_isinstance : PySem.W.nsIn K mainGlobals "isinstance" = some none)
    (z_len : PySem.W.nsIn K mainGlobals "len" = some none)
    (z_list : PySem.W.nsIn K mainGlobals "list" = some none)
    (z_max : PySem.W.nsIn K mainGlobals "max" = some none)
    (z_min : PySem.W.nsIn K mainGlobals "min" = some none)
    (z_range : PySem.W.nsIn K mainGlobals "range" = some none)
    (z_set : PySem.W.nsIn K mainGlobals "set" = some none)
    (z_sorted : PySem.W.nsIn K mainGlobals "sorted" = some none)
    (z_sum : PySem.W.nsIn K mainGlobals "sum" = some none)
    (z_tuple : PySem.W.nsIn K mainGlobals "tuple" = some none)
    (z_str : PySem.W.nsIn K mainGlobals "str" = some none)
    : ∃ fd : FuncData, (∀ (s : Shared) (v : Value), BindsTo s fd ⟨[v], []⟩ [("script", v)]) ∧ ∀ base : Heap, K.In base → base.Ns mainGlobals mg → FnOk l.prog w K mg base CX0 4 fa fd ["script"] (spLaw K) := by
  have e := hfa.symm.trans (PySem.W.mg_of X G a_law)
  cases e
  have F__law_cell := fun_mk (st := s__law_cell) l__law_cell c__law_cell k__law_cell
  have b__law_cell := F__law_cell.binds (ps := ["script", "k"]) fun _ _ _ _ _ _ us hl => match us, hl with | [_, _], _ => rfl
  have F__law_draws := fun_mk (st := s__law_draws) l__law_draws c__law_draws k__law_draws
  have b__law_draws := F__law_draws.binds (ps := ["cell", "amount"]) fun _ _ _ _ _ _ us hl => match us, hl with | [_, _], _ => rfl
  have F__law_pool := fun_mk (st := s__law_pool) l__law_pool c__law_pool k__law_pool
  have b__law_pool := F__law_pool.binds (ps := ["script"]) fun _ _ _ _ _ _ us hl => match us, hl with | [_], _ => rfl
  have F__law_pick := fun_mk (st := s__law_pick) l__law_pick c__law_pick k__law_pick
  have b__law_pick := F__law_pick.binds (ps := ["pool", "amount"]) fun _ _ _ _ _ _ us hl => match us, hl with | [_, _], _ => rfl
  have F_is_whole := fun_mk (st := s_is_whole) l_is_whole c_is_whole k_is_whole
  have b_is_whole := F_is_whole.binds (ps := ["value"]) fun _ _ _ _ _ _ us hl => match us, hl with | [_], _ => rfl
  have F_is_from := fun_mk (st := s_is_from) l_is_from c_is_from k_is_from
  have b_is_from := F_is_from.binds (ps := ["value", "low", "high"]) fun _ _ _ _ _ _ us hl => match us, hl with | [_, _, _], _ => rfl
  have F_is_named := fun_mk (st := s_is_named) l_is_named c_is_named k_is_named
  have b_is_named := F_is_named.binds (ps := ["value", "word", "size"]) fun _ _ _ _ _ _ us hl => match us, hl with | [_, _, _], _ => rfl
  have F_unlike := fun_mk (st := s_unlike) l_unlike c_unlike k_unlike
  have b_unlike := F_unlike.binds (ps := ["items"]) fun _ _ _ _ _ _ us hl => match us, hl with | [_], _ => rfl
  have F_common := fun_mk (st := s_common) l_common c_common k_common
  have b_common := F_common.binds (ps := ["a", "b"]) fun _ _ _ _ _ _ us hl => match us, hl with | [_, _], _ => rfl
  have F__law_gcd := fun_mk (st := s__law_gcd) l__law_gcd c__law_gcd k__law_gcd
  have b__law_gcd := F__law_gcd.binds (ps := ["a", "b"]) fun _ _ _ _ _ _ us hl => match us, hl with | [_, _], _ => rfl
  have F_inverse := fun_mk (st := s_inverse) l_inverse c_inverse k_inverse
  have b_inverse := F_inverse.binds (ps := ["q", "p"]) fun _ _ _ _ _ _ us hl => match us, hl with | [_, _], _ => rfl
  have F_bridge_paper := fun_mk (st := s_bridge_paper) l_bridge_paper c_bridge_paper k_bridge_paper
  have b_bridge_paper := F_bridge_paper.binds (ps := ["p", "q", "other"]) fun _ _ _ _ _ _ us hl => match us, hl with | [_, _, _], _ => rfl
  have F_check_bridge := fun_mk (st := s_check_bridge) l_check_bridge c_check_bridge k_check_bridge
  have b_check_bridge := F_check_bridge.binds (ps := ["p", "q", "other", "value"]) fun _ _ _ _ _ _ us hl => match us, hl with | [_, _, _, _], _ => rfl
  have F_is_own_mirror := fun_mk (st := s_is_own_mirror) l_is_own_mirror c_is_own_mirror k_is_own_mirror
  have b_is_own_mirror := F_is_own_mirror.binds (ps := ["p", "q"]) fun _ _ _ _ _ _ us hl => match us, hl with | [_, _], _ => rfl
  have F_count_links := fun_mk (st := s_count_links) l_count_links c_count_links k_count_links
  have b_count_links := F_count_links.binds (ps := ["p"]) fun _ _ _ _ _ _ us hl => match us, hl with | [_], _ => rfl
  have F_fraction := fun_mk (st := s_fraction) l_fraction c_fraction k_fraction
  have b_fraction := F_fraction.binds (ps := ["row"]) fun _ _ _ _ _ _ us hl => match us, hl with | [_], _ => rfl
  have F_row_for := fun_mk (st := s_row_for) l_row_for c_row_for k_row_for
  have b_row_for := F_row_for.binds (ps := ["p", "q"]) fun _ _ _ _ _ _ us hl => match us, hl with | [_, _], _ => rfl
  have F_odd_row := fun_mk (st := s_odd_row) l_odd_row c_odd_row k_odd_row
  have b_odd_row := F_odd_row.binds (ps := ["p", "q"]) fun _ _ _ _ _ _ us hl => match us, hl with | [_, _], _ => rfl
  have F_law := fun_mk (st := s_law) l_law c_law k_law
  have m_abs := PySem.W.mg_none_of X G z_abs
  have m_all := PySem.W.mg_none_of X G z_all
  have m_bool := PySem.W.mg_none_of X G z_bool
  have m_dict := PySem.W.mg_none_of X G z_dict
  have m_int := PySem.W.mg_none_of X G z_int
  have m_isinstance := PySem.W.mg_none_of X G z_isinstance
  have m_len := PySem.W.mg_none_of X G z_len
  have m_list := PySem.W.mg_none_of X G z_list
  have m_max := PySem.W.mg_none_of X G z_max
  have m_min := PySem.W.mg_none_of X G z_min
  have m_range := PySem.W.mg_none_of X G z_range
  have m_set := PySem.W.mg_none_of X G z_set
  have m_sorted := PySem.W.mg_none_of X G z_sorted
  have m_sum := PySem.W.mg_none_of X G z_sum
  have m_tuple := PySem.W.mg_none_of X G z_tuple
  have m_str := PySem.W.mg_none_of X G z_str
  have m : Bl mg := ⟨m_abs, m_all, m_bool, m_dict, m_int, m_isinstance, m_len, m_list, m_max, m_min, m_range, m_set, m_sorted, m_sum, m_tuple⟩
  refine ⟨PySem.W.fnOf "law" "law" (defArgs s_law) (defBody s_law) (defScope s_law) .none kV_law dc_law pm_law an_law cd_law ct_law, fun s v => .of_eq rfl, fun base _ _ => ?_⟩
  have d__law_cell := DefOk.mk' (P := l.prog) (w := w) (base := base) F__law_cell (ok__law_cell F__law_cell m) (PySem.W.mg_of X G a__law_cell) b__law_cell
  have d__law_draws := DefOk.mk' (P := l.prog) (w := w) (base := base) F__law_draws (ok__law_draws F__law_draws m) (PySem.W.mg_of X G a__law_draws) b__law_draws
  have d__law_pool := DefOk.mk' (P := l.prog) (w := w) (base := base) F__law_pool (ok__law_pool F__law_pool m trivial d__law_cell d__law_draws) (PySem.W.mg_of X G a__law_pool) b__law_pool
  have d__law_pick := DefOk.mk' (P := l.prog) (w := w) (base := base) F__law_pick (ok__law_pick F__law_pick m) (PySem.W.mg_of X G a__law_pick) b__law_pick
  have d_is_whole := DefOk.mk' (P := l.prog) (w := w) (base := base) F_is_whole (ok_is_whole F_is_whole m) (PySem.W.mg_of X G a_is_whole) b_is_whole
  have d_is_from := DefOk.mk' (P := l.prog) (w := w) (base := base) F_is_from (ok_is_from F_is_from m d_is_whole) (PySem.W.mg_of X G a_is_from) b_is_from
  have d_is_named := DefOk.mk' (P := l.prog) (w := w) (base := base) F_is_named (ok_is_named F_is_named m m_str) (PySem.W.mg_of X G a_is_named) b_is_named
  have d_unlike := DefOk.mk' (P := l.prog) (w := w) (base := base) F_unlike (ok_unlike F_unlike m) (PySem.W.mg_of X G a_unlike) b_unlike
  have d_common := DefOk.mk' (P := l.prog) (w := w) (base := base) F_common (ok_common F_common m) (PySem.W.mg_of X G a_common) b_common
  have d__law_gcd := DefOk.mk' (P := l.prog) (w := w) (base := base) F__law_gcd (ok__law_gcd F__law_gcd m) (PySem.W.mg_of X G a__law_gcd) b__law_gcd
  have d_inverse := DefOk.mk' (P := l.prog) (w := w) (base := base) F_inverse (ok_inverse F_inverse m) (PySem.W.mg_of X G a_inverse) b_inverse
  have d_bridge_paper := DefOk.mk' (P := l.prog) (w := w) (base := base) F_bridge_paper (ok_bridge_paper F_bridge_paper m d_inverse) (PySem.W.mg_of X G a_bridge_paper) b_bridge_paper
  have d_check_bridge := DefOk.mk' (P := l.prog) (w := w) (base := base) F_check_bridge (ok_check_bridge F_check_bridge m d_is_named d_is_from) (PySem.W.mg_of X G a_check_bridge) b_check_bridge
  have d_is_own_mirror := DefOk.mk' (P := l.prog) (w := w) (base := base) F_is_own_mirror (ok_is_own_mirror F_is_own_mirror m) (PySem.W.mg_of X G a_is_own_mirror) b_is_own_mirror
  have d_count_links := DefOk.mk' (P := l.prog) (w := w) (base := base) F_count_links (ok_count_links F_count_links m d_common d_inverse d_unlike) (PySem.W.mg_of X G a_count_links) b_count_links
  have d_fraction := DefOk.mk' (P := l.prog) (w := w) (base := base) F_fraction (ok_fraction F_fraction m) (PySem.W.mg_of X G a_fraction) b_fraction
  have d_row_for := DefOk.mk' (P := l.prog) (w := w) (base := base) F_row_for (ok_row_for F_row_for m) (PySem.W.mg_of X G a_row_for) b_row_for
  have d_odd_row := DefOk.mk' (P := l.prog) (w := w) (base := base) F_odd_row (ok_odd_row F_odd_row m d_row_for) (PySem.W.mg_of X G a_odd_row) b_odd_row
  exact ok_law F_law m d__law_pool d__law_pick d__law_gcd d_count_links d_bridge_paper d_check_bridge d_is_own_mirror d_odd_row d_fraction d_row_for
end K70
open PySem PySem.W PyProof.Rows
set_option maxHeartbeats 0 in
theorem PySem.Challenge.cw_knotwright_k70_whole_two_bridges_reckone_holds : PySem.Challenge.rw_knotwright_k70_whole_two_bridges_reckone.Holds := by
  w_on; o_law; k_head; (case hw => w_witness2)
  k_fill
  refine L2.walk_of (l := PySem.Challenge.rw_knotwright_k70_whole_two_bridges_reckone) (n := 63) (k := 4) (x := "script") (CX := fun _ => L2.CX0) (sp := fun w => K70.spLaw _) rfl (by decide) rfl ⟨rfl, by decide, by decide⟩ (fun w h Y => PySem.W.kIn_of Y) ?F (fun _ _ a ns hl _ hS => ⟨ns, K70.arg_list hS, by omega, fun _ => rfl⟩) (fun _ _ _ _ _ h => h)
  case F =>
    intro w mg fa h KX G hmg
    refine' K70.all_mk KX G hmg ?a__law_cell ?l__law_cell ?c__law_cell ?k__law_cell ?a__law_draws ?l__law_draws ?c__law_draws ?k__law_draws ?a__law_pool ?l__law_pool ?c__law_pool ?k__law_pool ?a__law_pick ?l__law_pick ?c__law_pick ?k__law_pick ?a_is_whole ?l_is_whole ?c_is_whole ?k_is_whole ?a_is_from ?l_is_from ?c_is_from ?k_is_from ?a_is_named ?l_is_named ?c_is_named ?k_is_named ?a_unlike ?l_unlike ?c_unlike ?k_unlike ?a_common ?l_common ?c_common ?k_common ?a__law_gcd ?l__law_gcd ?c__law_gcd ?k__law_gcd ?a_inverse ?l_inverse ?c_inverse ?k_inverse ?a_bridge_paper ?l_bridge_paper ?c_bridge_paper ?k_bridge_paper ?a_check_bridge ?l_check_bridge ?c_check_bridge ?k_check_bridge ?a_is_own_mirror ?l_is_own_mirror ?c_is_own_mirror ?k_is_own_mirror ?a_count_links ?l_count_links ?c_count_links ?k_count_links ?a_fraction ?l_fraction ?c_fraction ?k_fraction ?a_row_for ?l_row_for ?c_row_for ?k_row_for ?a_odd_row ?l_odd_row ?c_odd_row ?k_odd_row ?a_law ?l_law ?c_law ?k_law ?z_abs ?z_all ?z_bool ?z_dict ?z_int ?z_isinstance ?z_len ?z_list ?z_max ?z_min ?z_range ?z_set ?z_sorted ?z_sum ?z_tuple ?z_str
    (case a__law_cell => k_is); (case l__law_cell => k_is); (case c__law_cell => k_is); (case k__law_cell => k_is); (case a__law_draws => k_is); (case l__law_draws => k_is); (case c__law_draws => k_is); (case k__law_draws => k_is); (case a__law_pool => k_is); (case l__law_pool => k_is); (case c__law_pool => k_is); (case k__law_pool => k_is); (case a__law_pick => k_is); (case l__law_pick => k_is); (case c__law_pick => k_is); (case k__law_pick => k_is); (case a_is_whole => k_is); (case l_is_whole => k_is); (case c_is_whole => k_is); (case k_is_whole => k_is); (case a_is_from => k_is); (case l_is_from => k_is); (case c_is_from => k_is); (case k_is_from => k_is); (case a_is_named => k_is); (case l_is_named => k_is); (case c_is_named => k_is); (case k_is_named => k_is); (case a_unlike => k_is); (case l_unlike => k_is); (case c_unlike => k_is); (case k_unlike => k_is); (case a_common => k_is); (case l_common => k_is); (case c_common => k_is); (case k_common => k_is); (case a__law_gcd => k_is); (case l__law_gcd => k_is); (case c__law_gcd => k_is); (case k__law_gcd => k_is); (case a_inverse => k_is); (case l_inverse => k_is); (case c_inverse => k_is); (case k_inverse => k_is); (case a_bridge_paper => k_is); (case l_bridge_paper => k_is); (case c_bridge_paper => k_is); (case k_bridge_paper => k_is); (case a_check_bridge => k_is); (case l_check_bridge => k_is); (case c_check_bridge => k_is); (case k_check_bridge => k_is); (case a_is_own_mirror => k_is); (case l_is_own_mirror => k_is); (case c_is_own_mirror => k_is); (case k_is_own_mirror => k_is); (case a_count_links => k_is); (case l_count_links => k_is); (case c_count_links => k_is); (case k_count_links => k_is); (case a_fraction => k_is); (case l_fraction => k_is); (case c_fraction => k_is); (case k_fraction => k_is); (case a_row_for => k_is); (case l_row_for => k_is); (case c_row_for => k_is); (case k_row_for => k_is); (case a_odd_row => k_is); (case l_odd_row => k_is); (case c_odd_row => k_is); (case k_odd_row => k_is); (case a_law => k_is); (case l_law => k_is); (case c_law => k_is); (case k_law => k_is); (case z_abs => k_is); (case z_all => k_is); (case z_bool => k_is); (case z_dict => k_is); (case z_int => k_is); (case z_isinstance => k_is); (case z_len => k_is); (case z_list => k_is); (case z_max => k_is); (case z_min => k_is); (case z_range => k_is); (case z_set => k_is); (case z_sorted => k_is); (case z_sum => k_is); (case z_tuple => k_is); (case z_str => k_is)
