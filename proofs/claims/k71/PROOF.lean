import PyProof.Rows.All
import Wide.All
import OpenK.AllK
import Wide.FinOn
import HandS.ForMost
import HandS.Evl
import HandS.TupAny
import HandS.Style
import HandS.Conv
import HandS.DictComp
import HandS.IsInst
import HandS.SetFor
import KE.DataMinMax
import HandS.Strs
import HandS.Wide
import HandS.TupMul
import HandS.More
import HandS.SortInts
import KE.KDictPairs
import PySem.Challenge.RW_knotwright_k71_whole_ring_links_reckoned
set_option Elab.async false
set_option linter.all false
set_option maxRecDepth 100000
set_option maxHeartbeats 4000000
/-! Tuples whose objects are known: that they have no dict of their own is not forgotten. -/
namespace KW
open PySem PySem.Spec PyProof.Rows L2 Evl
def tupO (its : List Value) : Obj := { cls := .type "tuple", data := .seq its.toArray }
def XT (its : List Value) (xs : List V) : HO := .frz (tupO its) (.tup xs)
def SqT (_ : PySem.W.Frag) (H : Hp) (a : Addr) (xs : List V) : Prop := ∃ its, H a = some (XT its xs)
theorem SqT.t {K : PySem.W.Frag} {H : Hp} {a : Addr} {xs : List V} (h : SqT K H a xs) : L2.SqT K H a xs := let ⟨_, e⟩ := h; .inl (.inr ⟨_, e⟩)
instance {K : PySem.W.Frag} {H : Hp} {a : Addr} {xs : List V} : Coe (SqT K H a xs) (L2.SqT K H a xs) := ⟨SqT.t⟩
theorem ex_t {K : PySem.W.Frag} {H H' : Hp} {a : Addr} {xs : List V} (e : Ex H H') (h : SqT K H a xs) : SqT K H' a xs := let ⟨i, q⟩ := h; ⟨i, e _ _ q⟩
theorem st_of {K : PySem.W.Frag} {H : Hp} {a : Addr} {its : List Value} {xs : List V} (h : H a = some (XT its xs)) : SqT K H a xs := ⟨its, h⟩
mutual
inductive Dp (K : PySem.W.Frag) (H : Hp) : V → PyData → Prop
  | non : Dp K H .non .none
  | bl (b : Bool) : Dp K H (.bl b) (.bool b)
  | int (i : Int) : Dp K H (.int i) (.int i)
  | str (x : Str) : Dp K H (.str x) (.str x)
  | lst {a : Addr} {xs : List V} {ds : List PyData} : SqL K H a xs → DpAll K H xs ds → Dp K H (.ref a) (.list ds)
  | tup {a : Addr} {xs : List V} {ds : List PyData} : SqT K H a xs → DpAll K H xs ds → Dp K H (.ref a) (.tuple ds)
inductive DpAll (K : PySem.W.Frag) (H : Hp) : List V → List PyData → Prop
  | nil : DpAll K H [] []
  | cons {v : V} {vs : List V} {d : PyData} {ds : List PyData} : Dp K H v d → DpAll K H vs ds → DpAll K H (v :: vs) (d :: ds)
end
section
variable {K : PySem.W.Frag} {H : Hp}
mutual
theorem Dp.l : ∀ {d : PyData} {v : V}, Dp K H v d → L2.Dp K H v d
  | _, _, .non => .non
  | _, _, .bl b => .bl b
  | _, _, .int i => .int i
  | _, _, .str x => .str x
  | _, _, .lst a b => .lst a (DpAll.l b)
  | _, _, .tup a b => .tup a.t (DpAll.l b)
theorem DpAll.l : ∀ {ds : List PyData} {vs : List V}, DpAll K H vs ds → L2.DpAll K H vs ds
  | _, _, .nil => .nil
  | _, _, .cons a b => .cons (Dp.l a) (DpAll.l b)
end
end
instance {K : PySem.W.Frag} {H : Hp} {v : V} {d : PyData} : Coe (Dp K H v d) (L2.Dp K H v d) := ⟨Dp.l⟩
instance {K : PySem.W.Frag} {H : Hp} {v : List V} {d : List PyData} : Coe (DpAll K H v d) (L2.DpAll K H v d) := ⟨DpAll.l⟩
section
variable {X : Cx} {pins : List (Addr × Obj)} {σ : L2.St} {H : Hp} {s : Shared}
/-- a new tuple, laid -/
theorem xt_ok {P : Program} {w : World} {h : Heap} {a : Addr} {its : List Value} {xs : List V} (hz : xs.length ≤ sizeLine) (r : Vals xs its) (e : h.get? a = some (tupO its)) : ObjOk P w H h a (XT its xs) :=
  ⟨e, hz, its, r, _, e, rfl, _, rfl⟩
def tTup (t : TA) : TE := fun σ H Q => t σ H fun xs H1 => xs.length ≤ sizeLine ∧ ∀ {its : List Value} p, H1 p = none → Q (.ref p) (upd H1 p (XT its xs))
theorem pe_tup {es : List Expr} {t : TA} {pos : Pos} {x1} (h : PA X es t) : PE X (.Tuple es x1 pos) (tTup t) :=
  ⟨fun pins s σ H Q I hq => wpAny_Tuple_spliced (thn (h.run pos pins s σ H _ I hq) fun us s1 ⟨xs, H1, I1, r, z, q⟩ => ⟨by rw [← r.length]; exact z,
    .ref s1.heap.objs.size, _, I1.laid (t' := s1.toks) (fun b u e => Heap.get?_push_of_some _ e) (Nat.le_refl _) (xt_ok z r (Heap.get?_push_size _ rfl)), rfl, q _ (I1.hok.fresh (Nat.le_refl _))⟩)⟩
def rTupOf (K : PySem.W.Frag) : List V → Hp → VK → Prop := fun xs H Q => ∃ p ys, xs = [.ref p] ∧ ((SqL K H p ys ∧ ∀ {its : List Value} l, H l = none → Q (.ref l) (upd H l (XT its ys))) ∨ (L2.SqT K H p ys ∧ Q (.ref p) H))
theorem cr_tupOf : CallR X (.type "tuple") (rTupOf X.K) := by
  intro pins s σ H xs us Q I r ⟨p, ys, ex, h⟩
  subst ex
  obtain ⟨u, rfl, rx⟩ := vals1 r
  cases rx
  rcases h with ⟨hq, q⟩ | ⟨hq, q⟩
  · obtain ⟨its, r', pl, hz⟩ := I.list hq
    have hlen := r'.length
    exact call_tuple_list pl.isList (fun h' kp => ⟨.ref h'.objs.size, _, (I.kept (t' := s.toks) kp).laid (t' := s.toks) (fun b o e => Heap.get?_push_of_some _ e) (Nat.le_refl _) (xt_ok hz r' (Heap.get?_push_size _ rfl)), rfl,
      q _ ((I.kept (t' := s.toks) kp).hok.fresh (Nat.le_refl _))⟩) (by simp only [List.size_toArray] <;> omega)
  · obtain ⟨its, r', pl, hz⟩ := I.tuple hq
    exact call_tuple_same pl ⟨.ref p, H, I, rfl, q⟩
def tTupRg (te : L2.St → Hp → (Int → Int → Hp → Prop) → Prop) : TE := fun σ H Q => te σ H fun a b H1 => RgOk a b ∧ ∀ {its : List Value} q, H1 q = none → Q (.ref q) (upd H1 q (XT its (rgV a b)))
theorem pe_tupRg {e : Expr} {te : L2.St → Hp → (Int → Int → Hp → Prop) → Prop} {p pos : Pos} (hc : X.calm = true) (hg : Gl X "tuple") (hm : X.mg "tuple" = none) (he : PRg X e te) (na : starEach [e] X.env = (false, eval e X.env) :: starEach [] X.env := by rfl) :
    PE X (.Call (.Name "tuple" p) [e] [] pos) (tTupRg te) := by
  refine ⟨fun pins s σ H Q I h => Call_ (ld_blt I hg hm boot_tuple (PyProof.Rows.callWith_type1 (args_cons (thn (he pins s σ H _ I h) fun x s1 ⟨r, a, b, t, u, v, H1, ex, hr, I1, ok, q⟩ => args_nil ?_) na) na))⟩
  subst ex
  obtain ⟨b1, b2, b3, b4, b5⟩ := ok
  refine call_tuple_range (n := (b - a).toNat) (I1.ok.hd hc) hr (small_one b1 b2 b3 b4) (rangeSize_nat a b) b5 fun h' tk acc hk hi => ?_
  have I2 : Inv X pins σ H1 { s1 with heap := h', toks := tk } := I1.kept hk
  refine ⟨.ref h'.objs.size, _, I2.laid (t' := tk) (fun c o e => Heap.get?_push_of_some _ e) (Nat.le_refl _) (xt_ok (its := acc.toList) ?_ (vals_rg hi) (Heap.get?_push_size _ ?_)), rfl, q _ (I2.hok.fresh (Nat.le_refl _))⟩
  · rw [rgV_length, sizeLine_eq]; omega
  · rfl
def rSlA (K : PySem.W.Frag) : V → Option Int → Option Int → Hp → VK → Prop := fun x lo hi H Q => ∃ a xs, x = .ref a ∧ L2.SqT K H a xs ∧
  (HT.sIx xs.length 0 lo = 0 ∧ HT.sIx xs.length xs.length hi = xs.length → Q (.ref a) H) ∧ (¬ (HT.sIx xs.length 0 lo = 0 ∧ HT.sIx xs.length xs.length hi = xs.length) → ∀ {its : List Value} p, H p = none → Q (.ref p) (upd H p (XT its (cutV xs lo hi))))
theorem sl_tupA : SlR X (rSlA X.K) := by
  intro pins s σ H x v vl vu lo hi sl Q I rx hs pl pu ⟨a, xs, ex, hx, q1, q2⟩
  subst ex
  cases rx
  obtain ⟨its, r, ht, hz⟩ := I.tuple hx
  have hlen : its.toArray.size = xs.length := by rw [List.size_toArray]; exact r.length.symm
  refine ⟨"tuple", _, PyProof.Rows.slot_tuple_getitem.lookup, ht.typeIs, ?_⟩
  by_cases hw : HT.sIx xs.length 0 lo = 0 ∧ HT.sIx xs.length xs.length hi = xs.length
  · exact getItem_tuple_whole ht hs pl pu (by rw [hlen]; exact hw) ⟨.ref a, H, I, rfl, q1 hw⟩
  · refine HT.getItem_tuple_cut ht hs pl pu (by rw [hlen]; exact hw) ?_ (by rw [hlen]; exact hz)
    rw [hlen]
    exact ⟨.ref s.heap.objs.size, _, I.laid (t' := s.toks) (fun b ob q => Heap.get?_push_of_some _ q) (Nat.le_refl _)
      (xt_ok (Nat.le_trans (cutV_length xs lo hi) hz) ((r.drop (HT.sIx xs.length 0 lo)).take (HT.sIx xs.length xs.length hi - HT.sIx xs.length 0 lo)) (Heap.get?_push_size _ rfl)), rfl, q2 hw _ (I.hok.fresh (Nat.le_refl _))⟩
def rCatA (K : PySem.W.Frag) : R2 := fun x y H Q => ∃ a b xs ys, x = .ref a ∧ y = .ref b ∧ L2.SqT K H a xs ∧ L2.SqT K H b ys ∧ xs.length + ys.length ≤ sizeLine ∧
  (xs = [] → Q (.ref b) H) ∧ (xs ≠ [] → ys = [] → Q (.ref a) H) ∧ (xs ≠ [] → ys ≠ [] → ∀ {its : List Value} p, H p = none → Q (.ref p) (upd H p (XT its (xs ++ ys))))
theorem op_catA : OpR X (binaryOp .Add) (rCatA X.K) := by
  intro pins s σ H x y v u Q I rx ry ⟨a, b, xs, ys, e1, e2, ha, hb, hz, q0, q1, q2⟩
  subst e1 e2
  cases rx
  cases ry
  obtain ⟨its, r1, p1, _⟩ := I.tuple ha
  obtain ⟨its2, r2, p2, _⟩ := I.tuple hb
  by_cases hx : xs = []
  · subst hx
    cases r1
    exact cat_tup0 p1 p2 ⟨.ref b, H, I, rfl, q0 rfl⟩
  · refine HT.cat_tup p1 p2 (fun z => hx (r1.nil_iff.mp z)) (fun z => ⟨.ref a, H, I, rfl, q1 hx (r2.nil_iff.mp z)⟩) (fun z => ?_) (by rw [← r1.length, ← r2.length]; exact hz)
    exact ⟨.ref s.heap.objs.size, _, I.laid (t' := s.toks) (fun b ob q => Heap.get?_push_of_some _ q) (Nat.le_refl _) (xt_ok (by rw [List.length_append]; exact hz) (r1.append r2) (Heap.get?_push_size _ rfl)), rfl,
      q2 hx (fun w => z (r2.nil_iff.mpr w)) _ (I.hok.fresh (Nat.le_refl _))⟩
end
end KW

set_option Elab.async false
set_option linter.all false
set_option maxRecDepth 100000
set_option maxHeartbeats 4000000
/-! Data by value: what a slot holds is told as plain data, heap-free. -/
namespace KW
open PySem PySem.Spec PyProof.Rows L2 Evl

abbrev D := PyData
abbrev tI (xs : List Int) : D := .tuple (xs.map .int)
abbrev lI (xs : List Int) : D := .list (xs.map .int)
def kvD (p : Int × Int) : D × D := (.int p.1, .int p.2)
def kvV (p : Int × Int) : Key × V := (Sum.inl p.1, V.int p.2)
def dI (kvs : List (Int × Int)) : D := .dict (kvs.map kvD)

mutual
def noL : D → Bool
  | .none => true
  | .bool _ => true
  | .int _ => true
  | .str _ => true
  | .list _ => false
  | .tuple xs => noLs xs
  | .dict _ => false
def noLs : List D → Bool
  | [] => true
  | x :: xs => noL x && noLs xs
end
theorem noLs_all : ∀ {xs : List D}, noLs xs = true ↔ ∀ x ∈ xs, noL x = true
  | [] => by simp [noLs]
  | x :: xs => by simp [noLs, noLs_all (xs := xs)]
theorem noLs_map {α : Type} {f : α → D} (xs : List α) (h : ∀ x, noL (f x) = true) : noLs (xs.map f) = true := by
  rw [noLs_all]
  intro x hx
  obtain ⟨a, _, rfl⟩ := List.mem_map.mp hx
  exact h a
theorem noL_tI (xs : List Int) : noL (tI xs) = true := noLs_map xs fun _ => rfl
theorem noLs_ints (xs : List Int) : noLs (xs.map PyData.int) = true := noLs_map xs fun _ => rfl

/-! ### the relation of values and data -/
section
variable {K : PySem.W.Frag} {H H' : Hp}
mutual
theorem Dp.map (ft : ∀ a xs, SqT K H a xs → SqT K H' a xs) (fl : ∀ a xs, SqL K H a xs → SqL K H' a xs) : ∀ (d : D) (v : V), Dp K H v d → Dp K H' v d
  | .none, _, h => by cases h; exact .non
  | .bool b, _, h => by cases h; exact .bl _
  | .int i, _, h => by cases h; exact .int _
  | .str x, _, h => by cases h; exact .str _
  | .list ds, _, h => by
    cases h with
    | lst hs ha => exact .lst (fl _ _ hs) (DpAll.map ft fl ds _ ha)
  | .tuple ds, _, h => by
    cases h with
    | tup hs ha => exact .tup (ft _ _ hs) (DpAll.map ft fl ds _ ha)
  | .dict _, _, h => by cases h
theorem DpAll.map (ft : ∀ a xs, SqT K H a xs → SqT K H' a xs) (fl : ∀ a xs, SqL K H a xs → SqL K H' a xs) : ∀ (ds : List D) (vs : List V), DpAll K H vs ds → DpAll K H' vs ds
  | [], _, h => by cases h; exact .nil
  | d :: ds, _, h => by
    cases h with
    | cons h1 h2 => exact .cons (Dp.map ft fl d _ h1) (DpAll.map ft fl ds _ h2)
end
mutual
theorem Dp.mapT (ft : ∀ a xs, SqT K H a xs → SqT K H' a xs) : ∀ (d : D) (v : V), noL d = true → Dp K H v d → Dp K H' v d
  | .none, _, _, h => by cases h; exact .non
  | .bool b, _, _, h => by cases h; exact .bl _
  | .int i, _, _, h => by cases h; exact .int _
  | .str x, _, _, h => by cases h; exact .str _
  | .list ds, _, n, h => by simp [noL] at n
  | .tuple ds, _, n, h => by
    cases h with
    | tup hs ha => exact .tup (ft _ _ hs) (DpAll.mapT ft ds _ (by simpa [noL] using n) ha)
  | .dict _, _, _, h => by cases h
theorem DpAll.mapT (ft : ∀ a xs, SqT K H a xs → SqT K H' a xs) : ∀ (ds : List D) (vs : List V), noLs ds = true → DpAll K H vs ds → DpAll K H' vs ds
  | [], _, _, h => by cases h; exact .nil
  | d :: ds, _, n, h => by
    cases h with
    | cons h1 h2 =>
      simp only [noLs, Bool.and_eq_true] at n
      exact .cons (Dp.mapT ft d _ n.1 h1) (DpAll.mapT ft ds _ n.2 h2)
end
theorem Dp.mono {v : V} {d : D} (e : Ex H H') (h : Dp K H v d) : Dp K H' v d := Dp.map (fun _ _ => ex_t e) (fun _ _ => ex_l e) d v h
theorem DpAll.mono {vs : List V} {ds : List D} (e : Ex H H') (h : DpAll K H vs ds) : DpAll K H' vs ds := DpAll.map (fun _ _ => ex_t e) (fun _ _ => ex_l e) ds vs h
theorem DpAll.length : ∀ {vs : List V} {ds : List D}, DpAll K H vs ds → vs.length = ds.length
  | _, [], .nil => rfl
  | _, _ :: _, .cons _ h => by simp [DpAll.length h]
theorem DpAll.get : ∀ {vs : List V} {ds : List D} {j : Nat} {d : D}, DpAll K H vs ds → ds[j]? = some d → ∃ v, vs[j]? = some v ∧ Dp K H v d
  | _, [], j, d, .nil, e => by simp at e
  | _, _ :: _, 0, d, .cons h _, e => by simp at e; subst e; exact ⟨_, rfl, h⟩
  | _, _ :: _, j + 1, d, .cons _ h, e => by
    obtain ⟨v, h1, h2⟩ := DpAll.get (j := j) (d := d) h (by simpa using e)
    exact ⟨v, by simpa using h1, h2⟩
theorem DpAll.get' {vs : List V} {ds : List D} {j : Nat} {v : V} (h : DpAll K H vs ds) (e : vs[j]? = some v) : ∃ d, ds[j]? = some d ∧ Dp K H v d := by
  have hl := DpAll.length h
  obtain ⟨hj, _⟩ := List.getElem?_eq_some_iff.mp e
  have hj' : j < ds.length := by omega
  obtain ⟨v', h1, h2⟩ := DpAll.get (j := j) (d := ds[j]) h (List.getElem?_eq_getElem hj')
  rw [e] at h1
  cases h1
  exact ⟨_, List.getElem?_eq_getElem hj', h2⟩
theorem DpAll.append : ∀ {vs ws : List V} {ds es : List D}, DpAll K H vs ds → DpAll K H ws es → DpAll K H (vs ++ ws) (ds ++ es)
  | _, _, [], _, .nil, h => h
  | _, _, _ :: _, _, .cons a b, h => .cons a (DpAll.append b h)
theorem DpAll.set : ∀ {vs : List V} {ds : List D} (j : Nat) {v : V} {d : D}, DpAll K H vs ds → Dp K H v d → DpAll K H (vs.set j v) (ds.set j d)
  | _, [], _, _, _, .nil, _ => .nil
  | _, _ :: _, 0, _, _, .cons _ b, h => .cons h b
  | _, _ :: _, j + 1, _, _, .cons a b, h => .cons a (DpAll.set j b h)
theorem DpAll.drop : ∀ {vs : List V} {ds : List D} (n : Nat), DpAll K H vs ds → DpAll K H (vs.drop n) (ds.drop n)
  | _, _, 0, h => h
  | _, [], _ + 1, .nil => .nil
  | _, _ :: _, n + 1, .cons _ b => DpAll.drop n b
theorem DpAll.take : ∀ {vs : List V} {ds : List D} (n : Nat), DpAll K H vs ds → DpAll K H (vs.take n) (ds.take n)
  | _, _, 0, h => .nil
  | _, [], _ + 1, .nil => .nil
  | _, _ :: _, n + 1, .cons a b => .cons a (DpAll.take n b)
theorem DpAll.reverse {vs : List V} {ds : List D} (h : DpAll K H vs ds) : DpAll K H vs.reverse ds.reverse := by
  induction ds generalizing vs with
  | nil => cases h; exact .nil
  | cons d ds ih =>
    cases h with
    | cons a b =>
      rw [List.reverse_cons, List.reverse_cons]
      exact DpAll.append (ih b) (.cons a .nil)
theorem DpAll.rep {vs : List V} {ds : List D} (h : DpAll K H vs ds) : ∀ k : Nat, DpAll K H (List.replicate k vs).flatten (List.replicate k ds).flatten
  | 0 => .nil
  | k + 1 => by
    rw [List.replicate_succ, List.replicate_succ, List.flatten_cons, List.flatten_cons]
    exact DpAll.append h (DpAll.rep h k)
theorem DpAll.ints : ∀ {vs : List V} {ns : List Int}, DpAll K H vs (ns.map PyData.int) → vs = ns.map V.int
  | _, [], .nil => rfl
  | _, n :: ns, .cons a b => by
    cases a
    rw [DpAll.ints b]
    rfl
theorem DpAll.of_ints : ∀ ns : List Int, DpAll K H (ns.map V.int) (ns.map PyData.int)
  | [] => .nil
  | _ :: ns => .cons (.int _) (DpAll.of_ints ns)
theorem DpAll.bls : ∀ {vs : List V} {ns : List Bool}, DpAll K H vs (ns.map PyData.bool) → vs = ns.map V.bl
  | _, [], .nil => rfl
  | _, n :: ns, .cons a b => by
    cases a
    rw [DpAll.bls b]
    rfl

def Rp (K : PySem.W.Frag) (H : Hp) (v : V) (d : D) : Prop := Dp K H v d ∨ ∃ a kvs, v = .ref a ∧ d = dI kvs ∧ H a = some (.dK (kvs.map kvV))
theorem Rp.mono {v : V} {d : D} (e : Ex H H') (h : Rp K H v d) : Rp K H' v d := by
  rcases h with h | ⟨a, kvs, h1, h2, h3⟩
  · exact .inl (Dp.mono e h)
  · exact .inr ⟨a, kvs, h1, h2, e _ _ h3⟩
def isDict : D → Bool
  | .dict _ => true
  | _ => false
theorem Rp.dp {v : V} {d : D} (h : Rp K H v d) (n : isDict d = false) : Dp K H v d := by
  rcases h with h | ⟨a, kvs, h1, h2, h3⟩
  · exact h
  · subst h2
    simp [dI, isDict] at n
theorem Rp.int {v : V} {i : Int} (h : Rp K H v (.int i)) : v = .int i := by cases h.dp rfl; rfl
theorem Rp.bool {v : V} {i : Bool} (h : Rp K H v (.bool i)) : v = .bl i := by cases h.dp rfl; rfl
theorem Rp.str {v : V} {i : Str} (h : Rp K H v (.str i)) : v = .str i := by cases h.dp rfl; rfl
theorem Rp.none {v : V} (h : Rp K H v .none) : v = .non := by cases h.dp rfl; rfl
theorem Rp.tup {v : V} {ds : List D} (h : Rp K H v (.tuple ds)) : ∃ a vs, v = .ref a ∧ SqT K H a vs ∧ DpAll K H vs ds := by
  have h := h.dp rfl
  cases h with
  | tup a b => exact ⟨_, _, rfl, a, b⟩
theorem Rp.lst {v : V} {ds : List D} (h : Rp K H v (.list ds)) : ∃ a vs, v = .ref a ∧ SqL K H a vs ∧ DpAll K H vs ds := by
  have h := h.dp rfl
  cases h with
  | lst a b => exact ⟨_, _, rfl, a, b⟩
theorem kvD_inj {a b : List (Int × Int)} (h : a.map kvD = b.map kvD) : a = b := by
  induction a generalizing b with
  | nil => cases b with
    | nil => rfl
    | cons _ _ => simp at h
  | cons x xs ih => cases b with
    | nil => simp at h
    | cons y ys =>
      simp only [List.map_cons, List.cons.injEq, kvD, Prod.mk.injEq, PyData.int.injEq] at h
      obtain ⟨⟨h1, h2⟩, h3⟩ := h
      rw [ih h3]
      obtain ⟨x1, x2⟩ := x
      obtain ⟨y1, y2⟩ := y
      simp only at h1 h2
      rw [h1, h2]
theorem Rp.dict {v : V} {kvs : List (Int × Int)} (h : Rp K H v (dI kvs)) : ∃ a, v = .ref a ∧ H a = some (.dK (kvs.map kvV)) := by
  rcases h with h | ⟨a, kvs', h1, h2, h3⟩
  · cases h
  · have e := kvD_inj (PyData.dict.inj h2)
    subst e
    exact ⟨a, h1, h3⟩
theorem Rp.mapT (ft : ∀ a xs, SqT K H a xs → SqT K H' a xs) {v : V} {d : D} (n : noL d = true) (h : Rp K H v d) : Rp K H' v d :=
  .inl (Dp.mapT ft d v n (h.dp (by cases d <;> first | rfl | simp [noL] at n)))
abbrev RpAll (K : PySem.W.Frag) (H : Hp) : List V → List D → Prop := Paired (Rp K H)
theorem RpAll.mono : ∀ {vs : List V} {ds : List D}, Ex H H' → RpAll K H vs ds → RpAll K H' vs ds
  | _, _, _, .nil => .nil
  | _, _, e, .cons a b => .cons (a.mono e) (RpAll.mono e b)
theorem DpAll.rp : ∀ {vs : List V} {ds : List D}, DpAll K H vs ds → RpAll K H vs ds
  | _, [], .nil => .nil
  | _, _ :: _, .cons a b => .cons (.inl a) (DpAll.rp b)
def noDs (ds : List D) : Bool := ds.all fun d => !isDict d
theorem RpAll.dp : ∀ {vs : List V} {ds : List D}, noDs ds = true → RpAll K H vs ds → DpAll K H vs ds
  | _, _, _, .nil => .nil
  | _, d :: ds, n, .cons a b => by
    simp only [noDs, List.all_cons, Bool.and_eq_true, Bool.not_eq_true'] at n
    exact .cons (a.dp n.1) (RpAll.dp (by simpa [noDs] using n.2) b)
end

/-! ### slots by data -/
abbrev G := List (Option D)
def EnvOk (K : PySem.W.Frag) (H : Hp) (σ : L2.St) (Γ : G) : Prop := Γ.length = σ.length ∧ ∀ (i : Nat) (d : D), Γ[i]? = some (some d) → ∃ v, σ[i]? = some (some v) ∧ Rp K H v d
theorem EnvOk.mono {K : PySem.W.Frag} {H H' : Hp} {σ : L2.St} {Γ : G} (e : Ex H H') (h : EnvOk K H σ Γ) : EnvOk K H' σ Γ := ⟨h.1, fun i d q => let ⟨v, a, b⟩ := h.2 i d q; ⟨v, a, b.mono e⟩⟩
theorem EnvOk.set {K : PySem.W.Frag} {H : Hp} {σ : L2.St} {Γ : G} {j : Nat} {v : V} {d : D} (h : EnvOk K H σ Γ) (r : Rp K H v d) : EnvOk K H (σ.set j (some v)) (Γ.set j (some d)) := by
  refine ⟨by simp [h.1], fun i e q => ?_⟩
  by_cases hij : j = i
  · subst hij
    by_cases hj : j < Γ.length
    · rw [List.getElem?_set_self hj] at q
      cases q
      exact ⟨v, by rw [List.getElem?_set_self (by rw [← h.1]; exact hj)], r⟩
    · rw [List.getElem?_eq_none (by simpa using hj)] at q
      cases q
  · rw [List.getElem?_set_ne hij] at q
    rw [List.getElem?_set_ne hij]
    exact h.2 i e q
def wipeG (Γ : G) : List Nat → G
  | [] => Γ
  | v :: vs => (wipeG Γ vs).set v none
theorem wipeG_length (Γ : G) : ∀ vs : List Nat, (wipeG Γ vs).length = Γ.length
  | [] => rfl
  | v :: vs => by unfold wipeG; rw [List.length_set, wipeG_length Γ vs]
theorem wipe_get {σ : L2.St} {i : Nat} : ∀ {vs : List Nat}, i ∉ vs → (wipe σ vs)[i]? = σ[i]?
  | [], _ => rfl
  | v :: vs, h => by
    simp only [List.mem_cons, not_or] at h
    unfold wipe
    rw [List.getElem?_set_ne (Ne.symm h.1)]
    exact wipe_get h.2
theorem wipeG_some {Γ : G} {i : Nat} {d : D} : ∀ {vs : List Nat}, (wipeG Γ vs)[i]? = some (some d) → Γ[i]? = some (some d) ∧ i ∉ vs
  | [], h => ⟨h, by simp⟩
  | v :: vs, h => by
    unfold wipeG at h
    by_cases hi : v = i
    · subst hi
      by_cases hv : v < (wipeG Γ vs).length
      · rw [List.getElem?_set_self hv] at h; cases h
      · rw [List.getElem?_eq_none (by simpa using hv)] at h; cases h
    · rw [List.getElem?_set_ne hi] at h
      obtain ⟨h1, h2⟩ := wipeG_some h
      exact ⟨h1, by simp only [List.mem_cons, not_or]; exact ⟨fun e => hi e.symm, h2⟩⟩
theorem EnvOk.wipe {K : PySem.W.Frag} {H : Hp} {σ : L2.St} {Γ : G} (vs : List Nat) (h : EnvOk K H σ Γ) : EnvOk K H (wipe σ vs) (wipeG Γ vs) := by
  refine ⟨by rw [wipe_length, wipeG_length]; exact h.1, fun i d q => ?_⟩
  obtain ⟨q1, q2⟩ := wipeG_some q
  obtain ⟨v, a, b⟩ := h.2 i d q1
  exact ⟨v, by rw [wipe_get q2]; exact a, b⟩
theorem wipe_mem {σ : L2.St} {i : Nat} : ∀ {vs : List Nat}, i ∈ vs → i < σ.length → (wipe σ vs)[i]? = some none
  | v :: vs, h, hl => by
    unfold wipe
    by_cases hi : v = i
    · subst hi
      rw [List.getElem?_set_self (by rw [wipe_length]; exact hl)]
    · rw [List.getElem?_set_ne hi]
      rcases List.mem_cons.mp h with e | e
      · exact absurd e.symm hi
      · exact wipe_mem e hl
/-- what agrees outside of vs is wiped to the same -/
theorem wipe_eq {σ τ : L2.St} {vs : List Nat} (hl : τ.length = σ.length) (h : ∀ i : Nat, i ∉ vs → τ[i]? = σ[i]?) : wipe τ vs = wipe σ vs := by
  apply List.ext_getElem?
  intro i
  by_cases hi : i ∈ vs
  · by_cases hb : i < σ.length
    · rw [wipe_mem hi hb, wipe_mem hi (by rw [hl]; exact hb)]
    · rw [List.getElem?_eq_none (by rw [wipe_length, hl]; omega), List.getElem?_eq_none (by rw [wipe_length]; omega)]
  · rw [wipe_get hi, wipe_get hi, h i hi]

/-! ### what evaluates to what data -/
section
variable (K : PySem.W.Frag)
def EvR (te : TE) (Γ : G) (d : D) : Prop := ∀ σ H, EnvOk K H σ Γ → ∀ Q : VK, (∀ v H', Ex H H' → Rp K H' v d → Q v H') → te σ H Q
/-- a new list -/
def EvF (te : TE) (Γ : G) (ds : List D) : Prop := ∀ σ H, EnvOk K H σ Γ → ∀ Q : VK, (∀ p vs H', H p = none → Ex H H' → H' p = some (.lst vs) → DpAll K H' vs ds → Q (.ref p) H') → te σ H Q
/-- a new dict of ints by ints -/
def EvD (te : TE) (Γ : G) (kvs : List (Int × Int)) : Prop := ∀ σ H, EnvOk K H σ Γ → ∀ Q : VK, (∀ p H', H p = none → Ex H H' → H' p = some (.dK (kvs.map kvV)) → Q (.ref p) H') → te σ H Q
def EvB (tt : TT) (Γ : G) (b : Bool) : Prop := ∀ σ H, EnvOk K H σ Γ → ∀ Q : Bool → Hp → Prop, (∀ H', Ex H H' → Q b H') → tt σ H Q
def EvAs (ta : TA) (Γ : G) (ds : List D) : Prop := ∀ σ H, EnvOk K H σ Γ → ∀ Q : List V → Hp → Prop, (∀ vs H', Ex H H' → RpAll K H' vs ds → Q vs H') → ta σ H Q
def EvP (to : TO) (Γ : G) (o : Option Int) : Prop := ∀ σ H, EnvOk K H σ Γ → ∀ Q : Option Int → Hp → Prop, (∀ H', Ex H H' → Q o H') → to σ H Q
end
section
variable {K : PySem.W.Frag} {Γ : G} {ta tb tc te : TE} {t u : TT} {d e f : D} {b c : Bool} {i j : Int}
theorem EvF.r {ds : List D} (h : EvF K te Γ ds) : EvR K te Γ (.list ds) := fun σ H E Q q => h σ H E Q fun p vs H' _ e2 e3 e4 => q _ H' e2 (.inl (.lst (sq_of e3) e4))
theorem EvD.r {kvs : List (Int × Int)} (h : EvD K te Γ kvs) : EvR K te Γ (dI kvs) := fun σ H E Q q => h σ H E Q fun p H' _ e2 e3 => q _ H' e2 (.inr ⟨p, kvs, rfl, rfl, e3⟩)
theorem EvR.to (h : EvR K te Γ d) (q : d = e) : EvR K te Γ e := q ▸ h
theorem EvB.to (h : EvB K t Γ b) (q : b = c) : EvB K t Γ c := q ▸ h
theorem EvF.to {ds es : List D} (h : EvF K te Γ ds) (q : ds = es) : EvF K te Γ es := q ▸ h
theorem ev_var {i : Nat} (h : Γ[i]? = some (some d)) : EvR K (tVar i) Γ d := fun σ H E Q q => let ⟨v, a, r⟩ := E.2 i d h; ⟨v, a, q v H (Ex.refl H) r⟩
theorem ev_int : EvR K (tC (.int i)) Γ (.int i) := fun σ H E Q q => q _ H (Ex.refl H) (.inl (.int i))
theorem ev_bool : EvR K (tC (.bl b)) Γ (.bool b) := fun σ H E Q q => q _ H (Ex.refl H) (.inl (.bl b))
theorem ev_str {x : Str} : EvR K (tC (.str x)) Γ (.str x) := fun σ H E Q q => q _ H (Ex.refl H) (.inl (.str x))
theorem ev_none : EvR K (tC .non) Γ .none := fun σ H E Q q => q _ H (Ex.refl H) (.inl .non)
/-- two places, by values -/
theorem ev_op {r : R2} (ha : EvR K ta Γ d) (hb : EvR K tb Γ e) (hr : ∀ x y H, Rp K H x d → Rp K H y e → ∀ Q : VK, (∀ v H', Ex H H' → Rp K H' v f → Q v H') → r x y H Q) : EvR K (tOp r ta tb) Γ f := fun σ H E Q q =>
  ha σ H E _ fun x H1 e1 r1 => hb σ H1 (E.mono e1) _ fun y H2 e2 r2 => hr x y H2 (r1.mono e2) r2 Q fun v H' e3 r3 => q v H' ((e1.trans e2).trans e3) r3
theorem ef_op {r : R2} {ds : List D} (ha : EvR K ta Γ d) (hb : EvR K tb Γ e) (hr : ∀ x y H, Rp K H x d → Rp K H y e → ∀ Q : VK, (∀ p vs H', H p = none → Ex H H' → H' p = some (.lst vs) → DpAll K H' vs ds → Q (.ref p) H') → r x y H Q) : EvF K (tOp r ta tb) Γ ds := fun σ H E Q q =>
  ha σ H E _ fun x H1 e1 r1 => hb σ H1 (E.mono e1) _ fun y H2 e2 r2 => hr x y H2 (r1.mono e2) r2 Q fun p vs H' n e3 h3 r3 => q p vs H' (fresh_back (e1.trans e2) n) ((e1.trans e2).trans e3) h3 r3
def VD : V → D
  | .non => .none
  | .bl b => .bool b
  | .int i => .int i
  | .str x => .str x
  | _ => .none
def flatVD : V → Bool
  | .non => true
  | .bl b => true
  | .int i => true
  | .str x => true
  | _ => false
theorem rp_VD {H : Hp} : ∀ {v : V}, flatVD v = true → Rp K H v (VD v)
  | .non, _ => .inl .non
  | .bl b, _ => .inl (.bl b)
  | .int i, _ => .inl (.int i)
  | .str x, _ => .inl (.str x)
theorem ev_I0 {g : Int → Int → V} (ha : EvR K ta Γ (.int i)) (hb : EvR K tb Γ (.int j)) (hf : flatVD (g i j) = true) : EvR K (tOp (rI0 g) ta tb) Γ (VD (g i j)) :=
  ev_op ha hb fun x y H r1 r2 Q q => ⟨i, j, r1.int, r2.int, q _ H (Ex.refl H) (rp_VD hf)⟩
theorem ev_I {C : Int → Int → Prop} {g : Int → Int → V} (ha : EvR K ta Γ (.int i)) (hb : EvR K tb Γ (.int j)) (hf : flatVD (g i j) = true) (hc : C i j) : EvR K (tOp (rI C g) ta tb) Γ (VD (g i j)) :=
  ev_op ha hb fun x y H r1 r2 Q q => ⟨i, j, r1.int, r2.int, hc, q _ H (Ex.refl H) (rp_VD hf)⟩
theorem ev_add (ha : EvR K ta Γ (.int i)) (hb : EvR K tb Γ (.int j)) : EvR K (tOp (rI0 fun i j => .int (i + j)) ta tb) Γ (.int (i + j)) := ev_I0 ha hb rfl
theorem ev_sub (ha : EvR K ta Γ (.int i)) (hb : EvR K tb Γ (.int j)) : EvR K (tOp (rI0 fun i j => .int (i - j)) ta tb) Γ (.int (i - j)) := ev_I0 ha hb rfl
theorem ev_lt (ha : EvR K ta Γ (.int i)) (hb : EvR K tb Γ (.int j)) : EvR K (tOp (rI0 fun i j => .bl (decide (i < j))) ta tb) Γ (.bool (decide (i < j))) := ev_I0 ha hb rfl
theorem ev_le (ha : EvR K ta Γ (.int i)) (hb : EvR K tb Γ (.int j)) : EvR K (tOp (rI0 fun i j => .bl (decide (i ≤ j))) ta tb) Γ (.bool (decide (i ≤ j))) := ev_I0 ha hb rfl
theorem ev_gt (ha : EvR K ta Γ (.int i)) (hb : EvR K tb Γ (.int j)) : EvR K (tOp (rI0 fun i j => .bl (decide (j < i))) ta tb) Γ (.bool (decide (j < i))) := ev_I0 ha hb rfl
theorem ev_ge (ha : EvR K ta Γ (.int i)) (hb : EvR K tb Γ (.int j)) : EvR K (tOp (rI0 fun i j => .bl (decide (j ≤ i))) ta tb) Γ (.bool (decide (j ≤ i))) := ev_I0 ha hb rfl
theorem ev_mul (ha : EvR K ta Γ (.int i)) (hb : EvR K tb Γ (.int j)) (hc : CMul i j) : EvR K (tOp (rI CMul fun i j => .int (i * j)) ta tb) Γ (.int (i * j)) := ev_I ha hb rfl hc
theorem ev_mod (ha : EvR K ta Γ (.int i)) (hb : EvR K tb Γ (.int j)) (hc : 0 < j) : EvR K (tOp (rI (fun _ j => 0 < j) fun i j => .int (i % j)) ta tb) Γ (.int (i % j)) := ev_I ha hb rfl hc
theorem ev_fdiv (ha : EvR K ta Γ (.int i)) (hb : EvR K tb Γ (.int j)) (hc : CDiv i j) : EvR K (tOp (rI CDiv fun i j => .int (i / j)) ta tb) Γ (.int (i / j)) := ev_I ha hb rfl hc
theorem ev_pow (ha : EvR K ta Γ (.int i)) (hb : EvR K tb Γ (.int j)) (hc : CPow i j) : EvR K (tOp (rI CPow fun i j => .int (i ^ j.toNat)) ta tb) Γ (.int (i ^ j.toNat)) := ev_I ha hb rfl hc
theorem ev_eqI (ha : EvR K ta Γ (.int i)) (hb : EvR K tb Γ (.int j)) : EvR K (tOp rEq ta tb) Γ (.bool (decide (i = j))) :=
  ev_op ha hb fun x y H r1 r2 Q q => by
    rw [r1.int, r2.int]
    refine ⟨rfl, q _ H (Ex.refl H) (.inl ?_)⟩
    rw [show decide (V.int i = V.int j) = decide (i = j) by simp]
    exact .bl _
theorem ev_neI (ha : EvR K ta Γ (.int i)) (hb : EvR K tb Γ (.int j)) : EvR K (tOp rNe ta tb) Γ (.bool (!decide (i = j))) :=
  ev_op ha hb fun x y H r1 r2 Q q => by
    rw [r1.int, r2.int]
    refine ⟨rfl, q _ H (Ex.refl H) (.inl ?_)⟩
    rw [show decide (V.int i = V.int j) = decide (i = j) by simp]
    exact .bl _
theorem ev_eqS {x y : Str} (ha : EvR K ta Γ (.str x)) (hb : EvR K tb Γ (.str y)) : EvR K (tOp rEq ta tb) Γ (.bool (decide (x = y))) :=
  ev_op ha hb fun x' y' H r1 r2 Q q => by
    rw [r1.str, r2.str]
    refine ⟨rfl, q _ H (Ex.refl H) (.inl ?_)⟩
    rw [show decide (V.str x = V.str y) = decide (x = y) by simp]
    exact .bl _
theorem ev_neS {x y : Str} (ha : EvR K ta Γ (.str x)) (hb : EvR K tb Γ (.str y)) : EvR K (tOp rNe ta tb) Γ (.bool (!decide (x = y))) :=
  ev_op ha hb fun x' y' H r1 r2 Q q => by
    rw [r1.str, r2.str]
    refine ⟨rfl, q _ H (Ex.refl H) (.inl ?_)⟩
    rw [show decide (V.str x = V.str y) = decide (x = y) by simp]
    exact .bl _
theorem ev_eqB {x y : Bool} (ha : EvR K ta Γ (.bool x)) (hb : EvR K tb Γ (.bool y)) : EvR K (tOp rEq ta tb) Γ (.bool (decide (x = y))) :=
  ev_op ha hb fun x' y' H r1 r2 Q q => by
    rw [r1.bool, r2.bool]
    refine ⟨rfl, q _ H (Ex.refl H) (.inl ?_)⟩
    rw [show decide (V.bl x = V.bl y) = decide (x = y) by simp]
    exact .bl _
theorem ev_neB {x y : Bool} (ha : EvR K ta Γ (.bool x)) (hb : EvR K tb Γ (.bool y)) : EvR K (tOp rNe ta tb) Γ (.bool (!decide (x = y))) :=
  ev_op ha hb fun x' y' H r1 r2 Q q => by
    rw [r1.bool, r2.bool]
    refine ⟨rfl, q _ H (Ex.refl H) (.inl ?_)⟩
    rw [show decide (V.bl x = V.bl y) = decide (x = y) by simp]
    exact .bl _
/-- == of data -/
theorem ev_eqD (ha : EvR K ta Γ d) (hb : EvR K tb Γ e) (nd : isDict d = false) (ne : isDict e = false) (sd : SeqAt.shaped d = true) (se : SeqAt.shaped e = true) : EvR K (tOp (rEqD K) ta tb) Γ (.bool (PyData.eqv d e)) :=
  ev_op ha hb fun x y H r1 r2 Q q => ⟨d, e, r1.dp nd, r2.dp ne, sd, se, q _ H (Ex.refl H) (.inl (.bl _))⟩
theorem ev_neD (ha : EvR K ta Γ d) (hb : EvR K tb Γ e) (nd : isDict d = false) (ne : isDict e = false) (sd : SeqAt.shaped d = true) (se : SeqAt.shaped e = true) : EvR K (tOp (rNeD K) ta tb) Γ (.bool (!PyData.eqv d e)) :=
  ev_op ha hb fun x y H r1 r2 Q q => ⟨d, e, r1.dp nd, r2.dp ne, sd, se, q _ H (Ex.refl H) (.inl (.bl _))⟩
theorem DpAll.atI {H : Hp} {vs : List V} {ds : List D} {k : Int} (h : DpAll K H vs ds) (a : atI ds k = some d) : ∃ v, L2.atI vs k = some v ∧ Dp K H v d := by
  unfold L2.atI at a ⊢
  rw [DpAll.length h]
  cases q : ixN ds.length k with
  | none => rw [q] at a; cases a
  | some m =>
    rw [q] at a
    exact DpAll.get h a
theorem ev_ixT {ds : List D} (ha : EvR K ta Γ (.tuple ds)) (hb : EvR K tb Γ (.int i)) (h : atI ds i = some d) : EvR K (tOp (rIxT K) ta tb) Γ d :=
  ev_op ha hb fun x y H r1 r2 Q q => by
    obtain ⟨a, vs, rfl, hs, hd⟩ := r1.tup
    obtain ⟨v, h1, h2⟩ := DpAll.atI hd h
    exact ⟨a, vs, i, v, rfl, r2.int, hs, h1, q v H (Ex.refl H) (.inl h2)⟩
theorem ev_ixL {ds : List D} (ha : EvR K ta Γ (.list ds)) (hb : EvR K tb Γ (.int i)) (h : atI ds i = some d) : EvR K (tOp (rIxL K) ta tb) Γ d :=
  ev_op ha hb fun x y H r1 r2 Q q => by
    obtain ⟨a, vs, rfl, hs, hd⟩ := r1.lst
    obtain ⟨v, h1, h2⟩ := DpAll.atI hd h
    exact ⟨a, vs, i, v, rfl, r2.int, hs, h1, q v H (Ex.refl H) (.inl h2)⟩
theorem ev_neg (ha : EvR K ta Γ (.int i)) : EvR K (tUn (rU fun i => .int (-i)) ta) Γ (.int (-i)) := fun σ H E Q q => ha σ H E _ fun v H1 e1 r1 => ⟨i, r1.int, q _ H1 e1 (.inl (.int _))⟩
/-! tests -/
theorem eb_test (h : EvR K te Γ (.bool b)) : EvB K (tTest te) Γ b := fun σ H E Q q => h σ H E _ fun v H1 e1 r1 => ⟨b, r1.bool, q H1 e1⟩
theorem eb_B (h : EvR K te Γ (.bool b)) : EvB K (tB te) Γ b := fun σ H E Q q => h σ H E _ fun v H1 e1 r1 => ⟨b, r1.bool, q H1 e1⟩
theorem eb_and (h1 : EvB K t Γ b) (h2 : b = true → EvB K u Γ c) : EvB K (tAnd t u) Γ (b && c) := fun σ H E Q q => h1 σ H E _ fun H1 e1 => by
  cases b with
  | true =>
    show u σ H1 Q
    exact h2 rfl σ H1 (E.mono e1) Q fun H2 e2 => q H2 (e1.trans e2)
  | false =>
    show Q false H1
    exact q H1 e1
theorem eb_or (h1 : EvB K t Γ b) (h2 : b = false → EvB K u Γ c) : EvB K (tOr t u) Γ (b || c) := fun σ H E Q q => h1 σ H E _ fun H1 e1 => by
  cases b with
  | true =>
    show Q true H1
    exact q H1 e1
  | false =>
    show u σ H1 Q
    exact h2 rfl σ H1 (E.mono e1) Q fun H2 e2 => q H2 (e1.trans e2)
theorem eb_not (h : EvB K t Γ b) : EvB K (tNot t) Γ (!b) := fun σ H E Q q => h σ H E _ fun H1 e1 => q H1 e1
theorem ev_and (h1 : EvR K ta Γ (.bool b)) (h2 : b = true → EvR K tb Γ (.bool c)) : EvR K (tAndV ta tb) Γ (.bool (b && c)) := fun σ H E Q q => h1 σ H E _ fun v H1 e1 r1 => ⟨b, r1.bool, by
  cases b with
  | true =>
    show tb σ H1 Q
    exact h2 rfl σ H1 (E.mono e1) Q fun v H2 e2 r2 => q v H2 (e1.trans e2) r2
  | false =>
    show Q (.bl false) H1
    exact q _ H1 e1 (.inl (.bl _))⟩
theorem ev_or (h1 : EvR K ta Γ (.bool b)) (h2 : b = false → EvR K tb Γ (.bool c)) : EvR K (tOrV ta tb) Γ (.bool (b || c)) := fun σ H E Q q => h1 σ H E _ fun v H1 e1 r1 => ⟨b, r1.bool, by
  cases b with
  | true =>
    show Q (.bl true) H1
    exact q _ H1 e1 (.inl (.bl _))
  | false =>
    show tb σ H1 Q
    exact h2 rfl σ H1 (E.mono e1) Q fun v H2 e2 r2 => q v H2 (e1.trans e2) r2⟩
theorem ev_not (h1 : EvR K ta Γ (.bool b)) : EvR K (tNotV ta) Γ (.bool (!b)) := fun σ H E Q q => h1 σ H E _ fun v H1 e1 r1 => ⟨b, r1.bool, q _ H1 e1 (.inl (.bl _))⟩
theorem ev_if (h : EvB K t Γ b) (h1 : b = true → EvR K ta Γ d) (h2 : b = false → EvR K tb Γ d) : EvR K (tIf t ta tb) Γ d := fun σ H E Q q => h σ H E _ fun H1 e1 => by
  cases b with
  | true =>
    show ta σ H1 Q
    exact h1 rfl σ H1 (E.mono e1) Q fun v H2 e2 r2 => q v H2 (e1.trans e2) r2
  | false =>
    show tb σ H1 Q
    exact h2 rfl σ H1 (E.mono e1) Q fun v H2 e2 r2 => q v H2 (e1.trans e2) r2
theorem ev_ite (h : EvB K t Γ b) (h1 : b = true → EvR K ta Γ d) (h2 : b = false → EvR K tb Γ e) : EvR K (tIf t ta tb) Γ (if b then d else e) :=
  ev_if h (fun z => by rw [if_pos z]; exact h1 z) (fun z => by rw [if_neg (by rw [z]; decide)]; exact h2 z)
theorem ef_ite {ds es : List D} (h : EvB K t Γ b) (h1 : b = true → EvF K ta Γ ds) (h2 : b = false → EvF K tb Γ es) : EvF K (tIf t ta tb) Γ (if b then ds else es) := fun σ H E Q q => h σ H E _ fun H1 e1 => by
  cases b with
  | true =>
    show ta σ H1 Q
    exact h1 rfl σ H1 (E.mono e1) Q fun p vs H2 n e2 h2 r2 => q p vs H2 (fresh_back e1 n) (e1.trans e2) h2 r2
  | false =>
    show tb σ H1 Q
    exact h2 rfl σ H1 (E.mono e1) Q fun p vs H2 n e2 h2 r2 => q p vs H2 (fresh_back e1 n) (e1.trans e2) h2 r2
/-! arguments, displays, calls -/
theorem eas_nil : EvAs K tNil Γ [] := fun σ H E Q q => q [] H (Ex.refl H) .nil
theorem eas_cons {tr : TA} {ds : List D} (h : EvR K ta Γ d) (hr : EvAs K tr Γ ds) : EvAs K (tCons ta tr) Γ (d :: ds) := fun σ H E Q q =>
  h σ H E _ fun v H1 e1 r1 => hr σ H1 (E.mono e1) _ fun vs H2 e2 r2 => q _ H2 (e1.trans e2) (.cons (r1.mono e2) r2)
theorem ev_tup {ta : TA} {ds : List D} (h : EvAs K ta Γ ds) (n : noDs ds = true) (hl : ds.length ≤ 100000) : EvR K (tTup ta) Γ (.tuple ds) := fun σ H E Q q =>
  h σ H E _ fun vs H1 e1 r1 => ⟨sz_of (by rw [Paired.length r1]; exact hl), fun p hp => q _ _ (e1.trans (Ex.new hp)) (.inl (.tup (st_of upd_same) (DpAll.mono (Ex.new hp) (RpAll.dp n r1))))⟩
theorem ef_lst {ta : TA} {ds : List D} (h : EvAs K ta Γ ds) (n : noDs ds = true) (hl : ds.length ≤ 100000) : EvF K (tLst ta) Γ ds := fun σ H E Q q =>
  h σ H E _ fun vs H1 e1 r1 => ⟨sz_of (by rw [Paired.length r1]; exact hl), fun p hp => q p vs _ (fresh_back e1 hp) (e1.trans (Ex.new hp)) upd_same (DpAll.mono (Ex.new hp) (RpAll.dp n r1))⟩
/-- a built-in's call, by values -/
theorem ev_cb {r : List V → Hp → VK → Prop} {ta : TA} {ds : List D} (h : EvAs K ta Γ ds) (hr : ∀ vs H, RpAll K H vs ds → ∀ Q : VK, (∀ v H', Ex H H' → Rp K H' v d → Q v H') → r vs H Q) : EvR K (tCB r ta) Γ d := fun σ H E Q q =>
  h σ H E _ fun vs H1 e1 r1 => hr vs H1 r1 Q fun v H' e2 r2 => q v H' (e1.trans e2) r2
theorem ef_cb {r : List V → Hp → VK → Prop} {ta : TA} {ds es : List D} (h : EvAs K ta Γ ds) (hr : ∀ vs H, RpAll K H vs ds → ∀ Q : VK, (∀ p vs H', H p = none → Ex H H' → H' p = some (.lst vs) → DpAll K H' vs es → Q (.ref p) H') → r vs H Q) : EvF K (tCB r ta) Γ es := fun σ H E Q q =>
  h σ H E _ fun vs H1 e1 r1 => hr vs H1 r1 Q fun p vs H' n e2 h2 r2 => q p vs H' (fresh_back e1 n) (e1.trans e2) h2 r2
theorem rp1 {H : Hp} {vs : List V} (h : RpAll K H vs [d]) : ∃ v, vs = [v] ∧ Rp K H v d := by
  cases h with
  | cons a b => cases b; exact ⟨_, rfl, a⟩
theorem rp2 {H : Hp} {vs : List V} (h : RpAll K H vs [d, e]) : ∃ v w, vs = [v, w] ∧ Rp K H v d ∧ Rp K H w e := by
  cases h with
  | cons a b => cases b with
    | cons a' b' => cases b'; exact ⟨_, _, rfl, a, a'⟩
theorem rp3 {H : Hp} {vs : List V} (h : RpAll K H vs [d, e, f]) : ∃ v w x, vs = [v, w, x] ∧ Rp K H v d ∧ Rp K H w e ∧ Rp K H x f := by
  cases h with
  | cons a b => cases b with
    | cons a' b' => cases b' with
      | cons a'' b'' => cases b''; exact ⟨_, _, _, rfl, a, a', a''⟩
abbrev rAbs : List V → Hp → VK → Prop := fun xs H Q => ∃ i, xs = [.int i] ∧ Q (.int (if i < 0 then -i else i)) H
theorem ev_abs (h : EvR K ta Γ (.int i)) : EvR K (tCB rAbs (tCons ta tNil)) Γ (.int (if i < 0 then -i else i)) :=
  ev_cb (eas_cons h eas_nil) fun vs H r Q q => by
    obtain ⟨v, rfl, r1⟩ := rp1 r
    exact ⟨i, by rw [r1.int], q _ H (Ex.refl H) (.inl (.int _))⟩
abbrev rMax2' : List V → Hp → VK → Prop := fun xs H Q => ∃ i j, xs = [.int i, .int j] ∧ Q (.int (if j > i then j else i)) H
theorem ev_max2 (h : EvR K ta Γ (.int i)) (h2 : EvR K tb Γ (.int j)) : EvR K (tCB rMax2' (tCons ta (tCons tb tNil))) Γ (.int (if j > i then j else i)) :=
  ev_cb (eas_cons h (eas_cons h2 eas_nil)) fun vs H r Q q => by
    obtain ⟨v, w, rfl, r1, r2⟩ := rp2 r
    exact ⟨i, j, by rw [r1.int, r2.int], q _ H (Ex.refl H) (.inl (.int _))⟩
abbrev rMin2' : List V → Hp → VK → Prop := fun xs H Q => ∃ i j, xs = [.int i, .int j] ∧ Q (.int (if j < i then j else i)) H
theorem ev_min2 (h : EvR K ta Γ (.int i)) (h2 : EvR K tb Γ (.int j)) : EvR K (tCB rMin2' (tCons ta (tCons tb tNil))) Γ (.int (if j < i then j else i)) :=
  ev_cb (eas_cons h (eas_cons h2 eas_nil)) fun vs H r Q q => by
    obtain ⟨v, w, rfl, r1, r2⟩ := rp2 r
    exact ⟨i, j, by rw [r1.int, r2.int], q _ H (Ex.refl H) (.inl (.int _))⟩
abbrev rInt1 : List V → Hp → VK → Prop := fun xs H Q => (∃ i, xs = [.int i] ∧ Q (.int i) H) ∨ ∃ k, xs = [.bl k] ∧ Q (.int (if k then 1 else 0)) H
theorem ev_intI (h : EvR K ta Γ (.int i)) : EvR K (tCB rInt1 (tCons ta tNil)) Γ (.int i) :=
  ev_cb (eas_cons h eas_nil) fun vs H r Q q => by
    obtain ⟨v, rfl, r1⟩ := rp1 r
    exact .inl ⟨i, by rw [r1.int], q _ H (Ex.refl H) (.inl (.int _))⟩
theorem ev_intB (h : EvR K ta Γ (.bool b)) : EvR K (tCB rInt1 (tCons ta tNil)) Γ (.int (if b then 1 else 0)) :=
  ev_cb (eas_cons h eas_nil) fun vs H r Q q => by
    obtain ⟨v, rfl, r1⟩ := rp1 r
    exact .inr ⟨b, by rw [r1.bool], q _ H (Ex.refl H) (.inl (.int _))⟩
abbrev rLenS' (K : PySem.W.Frag) : List V → Hp → VK → Prop := fun xs H Q => ∃ p ys, xs = [.ref p] ∧ (SqL K H p ys ∨ L2.SqT K H p ys) ∧ Q (.int ys.length) H
theorem ev_lenT {ds : List D} (h : EvR K ta Γ (.tuple ds)) : EvR K (tCB (rLenS' K) (tCons ta tNil)) Γ (.int (ds.length : Int)) :=
  ev_cb (eas_cons h eas_nil) fun vs H r Q q => by
    obtain ⟨v, rfl, r1⟩ := rp1 r
    obtain ⟨a, ws, rfl, hs, hd⟩ := r1.tup
    refine ⟨a, ws, rfl, .inr hs, q _ H (Ex.refl H) (.inl ?_)⟩
    rw [DpAll.length hd]
    exact .int _
theorem ev_lenL {ds : List D} (h : EvR K ta Γ (.list ds)) : EvR K (tCB (rLenS' K) (tCons ta tNil)) Γ (.int (ds.length : Int)) :=
  ev_cb (eas_cons h eas_nil) fun vs H r Q q => by
    obtain ⟨v, rfl, r1⟩ := rp1 r
    obtain ⟨a, ws, rfl, hs, hd⟩ := r1.lst
    refine ⟨a, ws, rfl, .inl hs, q _ H (Ex.refl H) (.inl ?_)⟩
    rw [DpAll.length hd]
    exact .int _
abbrev rListOf (K : PySem.W.Frag) : List V → Hp → VK → Prop := fun xs H Q => ∃ p ys, xs = [.ref p] ∧ (SqL K H p ys ∨ L2.SqT K H p ys) ∧ ∀ l, H l = none → Q (.ref l) (upd H l (.lst ys))
theorem ef_listT {ds : List D} (h : EvR K ta Γ (.tuple ds)) : EvF K (tCB (rListOf K) (tCons ta tNil)) Γ ds :=
  ef_cb (eas_cons h eas_nil) fun vs H r Q q => by
    obtain ⟨v, rfl, r1⟩ := rp1 r
    obtain ⟨a, ws, rfl, hs, hd⟩ := r1.tup
    exact ⟨a, ws, rfl, .inr hs, fun l hl => q l ws _ hl (Ex.new hl) upd_same (DpAll.mono (Ex.new hl) hd)⟩
theorem ef_listL {ds : List D} (h : EvR K ta Γ (.list ds)) : EvF K (tCB (rListOf K) (tCons ta tNil)) Γ ds :=
  ef_cb (eas_cons h eas_nil) fun vs H r Q q => by
    obtain ⟨v, rfl, r1⟩ := rp1 r
    obtain ⟨a, ws, rfl, hs, hd⟩ := r1.lst
    exact ⟨a, ws, rfl, .inl hs, fun l hl => q l ws _ hl (Ex.new hl) upd_same (DpAll.mono (Ex.new hl) hd)⟩
theorem ev_tupL {ds : List D} (h : EvR K ta Γ (.list ds)) : EvR K (tCB (rTupOf K) (tCons ta tNil)) Γ (.tuple ds) :=
  ev_cb (eas_cons h eas_nil) fun vs H r Q q => by
    obtain ⟨v, rfl, r1⟩ := rp1 r
    obtain ⟨a, ws, rfl, hs, hd⟩ := r1.lst
    exact ⟨a, ws, rfl, .inl ⟨hs, fun l hl => q _ _ (Ex.new hl) (.inl (.tup (st_of upd_same) (DpAll.mono (Ex.new hl) hd)))⟩⟩
theorem ev_tupT {ds : List D} (h : EvR K ta Γ (.tuple ds)) : EvR K (tCB (rTupOf K) (tCons ta tNil)) Γ (.tuple ds) :=
  ev_cb (eas_cons h eas_nil) fun vs H r Q q => by
    obtain ⟨v, rfl, r1⟩ := rp1 r
    obtain ⟨a, ws, rfl, hs, hd⟩ := r1.tup
    exact ⟨a, ws, rfl, .inr ⟨hs, q _ H (Ex.refl H) (.inl (.tup hs hd))⟩⟩
theorem ev_sum {ns : List Int} (h : EvR K ta Γ (lI ns)) : EvR K (tCB (rSum K) (tCons ta tNil)) Γ (.int ns.sum) :=
  ev_cb (eas_cons h eas_nil) fun vs H r Q q => by
    obtain ⟨v, rfl, r1⟩ := rp1 r
    obtain ⟨a, ws, rfl, hs, hd⟩ := r1.lst
    rw [DpAll.ints hd] at hs
    exact ⟨a, ns, rfl, hs, q _ H (Ex.refl H) (.inl (.int _))⟩
theorem ev_all {bs : List Bool} (h : EvR K ta Γ (.list (bs.map .bool))) : EvR K (tCB (rAll K) (tCons ta tNil)) Γ (.bool (bs.all id)) :=
  ev_cb (eas_cons h eas_nil) fun vs H r Q q => by
    obtain ⟨v, rfl, r1⟩ := rp1 r
    obtain ⟨a, ws, rfl, hs, hd⟩ := r1.lst
    rw [DpAll.bls hd] at hs
    exact ⟨a, bs, rfl, hs, q _ H (Ex.refl H) (.inl (.bl _))⟩
/-- t + u of tuples -/
theorem ev_catT {ds es : List D} (ha : EvR K ta Γ (.tuple ds)) (hb : EvR K tb Γ (.tuple es)) (hl : ds.length + es.length ≤ 100000) : EvR K (tOp (rCatA K) ta tb) Γ (.tuple (ds ++ es)) :=
  ev_op ha hb fun x y H r1 r2 Q q => by
    obtain ⟨a, vs, rfl, hs, hd⟩ := r1.tup
    obtain ⟨b, ws, rfl, ht, he⟩ := r2.tup
    have l1 := DpAll.length hd
    have l2 := DpAll.length he
    refine ⟨a, b, vs, ws, rfl, rfl, hs, ht, sz_of (by omega), fun z => ?_, fun _ z => ?_, fun _ _ => fun p hp => ?_⟩
    · have z' : ds = [] := List.length_eq_zero_iff.mp (by rw [← l1, z]; rfl)
      rw [z'] at q
      exact q _ H (Ex.refl H) (.inl (.tup ht he))
    · have z' : es = [] := List.length_eq_zero_iff.mp (by rw [← l2, z]; rfl)
      rw [z', List.append_nil] at q
      exact q _ H (Ex.refl H) (.inl (.tup hs hd))
    · exact q _ _ (Ex.new hp) (.inl (.tup (st_of upd_same) (DpAll.mono (Ex.new hp) (DpAll.append hd he))))
/-! slices -/
theorem ep_none : EvP K tNoPart Γ none := fun σ H E Q q => q H (Ex.refl H)
theorem ep_some (h : EvR K te Γ (.int i)) : EvP K (tPart te) Γ (some i) := fun σ H E Q q => h σ H E _ fun v H1 e1 r1 => ⟨i, r1.int, q H1 e1⟩
def cutD (xs : List D) (lo hi : Option Int) : List D := (xs.drop (HT.sIx xs.length 0 lo)).take (HT.sIx xs.length xs.length hi - HT.sIx xs.length 0 lo)
theorem DpAll.cut {H : Hp} {vs : List V} {ds : List D} (lo hi : Option Int) (h : DpAll K H vs ds) : DpAll K H (cutV vs lo hi) (cutD ds lo hi) := by
  unfold cutV cutD
  rw [DpAll.length h]
  exact DpAll.take _ (DpAll.drop _ h)
theorem ev_slT {ds : List D} {tl th : TO} {lo hi : Option Int} (ha : EvR K te Γ (.tuple ds)) (hl : EvP K tl Γ lo) (hh : EvP K th Γ hi) : EvR K (tSl (rSlA K) te tl th) Γ (.tuple (cutD ds lo hi)) := fun σ H E Q q =>
  ha σ H E _ fun v H1 e1 r1 => hl σ H1 (E.mono e1) _ fun H2 e2 => hh σ H2 (E.mono (e1.trans e2)) _ fun H3 e3 => by
    obtain ⟨a, vs, rfl, hs, hd⟩ := (r1.mono (e2.trans e3)).tup
    have e := (e1.trans e2).trans e3
    refine ⟨a, vs, rfl, hs, fun z => ?_, fun _ => fun p hp => ?_⟩
    · have l1 := DpAll.length hd
      have : cutD ds lo hi = ds := by
        unfold cutD
        rw [← l1, z.1, z.2, List.drop_zero, Nat.sub_zero, l1]
        exact List.take_length
      rw [this] at q
      exact q _ H3 e (.inl (.tup hs hd))
    · exact q _ _ (e.trans (Ex.new hp)) (.inl (.tup (st_of upd_same) (DpAll.mono (Ex.new hp) (DpAll.cut lo hi hd))))
theorem ef_slL {ds : List D} {tl th : TO} {lo hi : Option Int} (ha : EvR K te Γ (.list ds)) (hl : EvP K tl Γ lo) (hh : EvP K th Γ hi) : EvF K (tSl (rSlL K) te tl th) Γ (cutD ds lo hi) := fun σ H E Q q =>
  ha σ H E _ fun v H1 e1 r1 => hl σ H1 (E.mono e1) _ fun H2 e2 => hh σ H2 (E.mono (e1.trans e2)) _ fun H3 e3 => by
    obtain ⟨a, vs, rfl, hs, hd⟩ := (r1.mono (e2.trans e3)).lst
    have e := (e1.trans e2).trans e3
    exact ⟨a, vs, rfl, hs, fun p hp => q p _ _ (fresh_back e hp) (e.trans (Ex.new hp)) upd_same (DpAll.mono (Ex.new hp) (DpAll.cut lo hi hd))⟩
theorem ef_revL {ds : List D} (ha : EvR K te Γ (.list ds)) : EvF K (tRevL K te) Γ ds.reverse := fun σ H E Q q =>
  ha σ H E _ fun v H1 e1 r1 => by
    obtain ⟨a, vs, rfl, hs, hd⟩ := r1.lst
    exact ⟨a, vs, rfl, hs, fun p hp => q p _ _ (fresh_back e1 hp) (e1.trans (Ex.new hp)) upd_same (DpAll.mono (Ex.new hp) (DpAll.reverse hd))⟩
theorem cutD_from (ds : List D) (k : Nat) : cutD ds (some (k : Int)) none = ds.drop k := by
  unfold cutD
  rw [HT.sIx_nat, HT.sIx_none]
  by_cases h : k ≤ ds.length
  · rw [Nat.min_eq_left h]
    exact List.take_of_length_le (by simp)
  · rw [Nat.min_eq_right (by omega), List.drop_length, List.drop_of_length_le (by omega)]
    simp
end
end KW

set_option Elab.async false
set_option linter.all false
set_option maxRecDepth 100000
set_option maxHeartbeats 4000000
/-! comprehensions, calls -/
namespace KW
open PySem PySem.Spec PyProof.Rows L2 Evl

/-! ### a heap without one object -/
noncomputable def del (H : Hp) (D : Addr) : Hp := fun a => if a = D then none else H a
theorem del_same {H : Hp} {D : Addr} : del H D D = none := by unfold del; rw [if_pos rfl]
theorem del_ne {H : Hp} {D a : Addr} (h : a ≠ D) : del H D a = H a := by unfold del; rw [if_neg h]
theorem del_ex {H : Hp} {D : Addr} : Ex (del H D) H := fun a o h => by
  by_cases e : a = D
  · subst e; rw [del_same] at h; cases h
  · rw [del_ne e] at h; exact h
theorem del_mono {H H' : Hp} {D : Addr} (x : Ex H H') : Ex (del H D) (del H' D) := fun a o h => by
  by_cases e : a = D
  · subst e; rw [del_same] at h; cases h
  · rw [del_ne e] at h ⊢; exact x a o h
theorem del_upd {H H' : Hp} {D : Addr} {o : HO} (x : Ex H H') : Ex (del H D) (del (upd H' D o) D) := fun a u h => by
  by_cases e : a = D
  · subst e; rw [del_same] at h; cases h
  · rw [del_ne e] at h ⊢; rw [upd_ne e]; exact x a u h
theorem del_of {H H' : Hp} {D : Addr} (n : H D = none) (x : Ex H H') : Ex H (del H' D) := fun a o h => by
  have e : a ≠ D := fun e => by subst e; rw [n] at h; cases h
  rw [del_ne e]; exact x a o h
theorem del_sqT {K : PySem.W.Frag} {H : Hp} {D : Addr} {xs : List V} (h : H D = some (.lst xs)) : ∀ a ys, SqT K H a ys → SqT K (del H D) a ys := fun a ys q => by
  obtain ⟨i, q⟩ := q
  have n : a ≠ D := fun z => by
    subst z
    rw [q] at h
    cases h
  exact ⟨i, by rw [del_ne n]; exact q⟩
/-! ### targets by data -/
def setW (σ : L2.St) (ws : List (Nat × V)) : L2.St := ws.foldl (fun σ p => σ.set p.1 (some p.2)) σ
def setJ (Γ : G) (js : List (Nat × D)) : G := js.foldl (fun Γ p => Γ.set p.1 (some p.2)) Γ
abbrev JW (K : PySem.W.Frag) (H : Hp) : List (Nat × V) → List (Nat × D) → Prop := Paired fun w j => w.1 = j.1 ∧ Rp K H w.2 j.2
theorem JW.env {K : PySem.W.Frag} {H : Hp} : ∀ {ws : List (Nat × V)} {js : List (Nat × D)} {σ : L2.St} {Γ : G}, JW K H ws js → EnvOk K H σ Γ → EnvOk K H (setW σ ws) (setJ Γ js)
  | _, _, _, _, .nil, E => E
  | _, _, σ, Γ, .cons (a := w) (b := j) h t, E => by
    obtain ⟨h1, h2⟩ := h
    have := E.set (j := j.1) h2
    rw [← h1] at this
    show EnvOk K H (setW (σ.set w.1 (some w.2)) _) (setJ (Γ.set j.1 (some j.2)) _)
    rw [← h1]
    exact JW.env t this
theorem setW_length : ∀ (ws : List (Nat × V)) (σ : L2.St), (setW σ ws).length = σ.length
  | [], _ => rfl
  | w :: ws, σ => by
    show (setW (σ.set w.1 (some w.2)) ws).length = _
    rw [setW_length, List.length_set]
theorem setW_out {i : Nat} : ∀ (ws : List (Nat × V)) (σ : L2.St), (∀ p ∈ ws, p.1 ≠ i) → (setW σ ws)[i]? = σ[i]?
  | [], _, _ => rfl
  | w :: ws, σ, h => by
    show (setW (σ.set w.1 (some w.2)) ws)[i]? = _
    rw [setW_out ws _ fun p hp => h p (List.mem_cons_of_mem _ hp), List.getElem?_set_ne (h w List.mem_cons_self)]
theorem JW.keys {K : PySem.W.Frag} {H : Hp} {vs : List Nat} : ∀ {ws : List (Nat × V)} {js : List (Nat × D)}, JW K H ws js → (∀ p ∈ js, p.1 ∈ vs) → ∀ p ∈ ws, p.1 ∈ vs
  | _, _, .nil, _, p, hp => by cases hp
  | _, _, .cons (b := j) h t, k, p, hp => by
    rcases List.mem_cons.mp hp with rfl | hp
    · rw [h.1]; exact k j List.mem_cons_self
    · exact JW.keys t (fun q hq => k q (List.mem_cons_of_mem _ hq)) p hp
theorem JW.mono {K : PySem.W.Frag} {H H' : Hp} (e : Ex H H') : ∀ {ws : List (Nat × V)} {js : List (Nat × D)}, JW K H ws js → JW K H' ws js
  | _, _, .nil => .nil
  | _, _, .cons h t => .cons ⟨h.1, h.2.mono e⟩ (JW.mono e t)
theorem JW.append {K : PySem.W.Frag} {H : Hp} : ∀ {ws ws' : List (Nat × V)} {js js' : List (Nat × D)}, JW K H ws js → JW K H ws' js' → JW K H (ws ++ ws') (js ++ js')
  | _, _, _, _, .nil, h => h
  | _, _, _, _, .cons h t, q => .cons h (JW.append t q)
theorem setW_append (σ : L2.St) (a b : List (Nat × V)) : setW σ (a ++ b) = setW (setW σ a) b := List.foldl_append
def Tg (K : PySem.W.Frag) (g : TG) (d : D) (js : List (Nat × D)) : Prop :=
  ∀ v B, Rp K B v d → ∃ ws, JW K B ws js ∧ ∀ H, Ex B H → ∀ σ (Q : L2.St → Hp → Prop), Q (setW σ ws) H → g v σ H Q
def TgL (K : PySem.W.Frag) (g : TGs) (ds : List D) (js : List (Nat × D)) : Prop :=
  ∀ vs B, DpAll K B vs ds → ∃ ws, JW K B ws js ∧ ∀ H, Ex B H → ∀ σ (Q : L2.St → Hp → Prop), Q (setW σ ws) H → g vs σ H Q
section
variable {K : PySem.W.Frag} {d : D} {ds : List D} {js js' : List (Nat × D)} {g : TG} {gs : TGs} {j n : Nat}
theorem tg_name : Tg K (gName j) d [(j, d)] := fun v H r => ⟨[(j, v)], .cons ⟨rfl, r⟩ .nil, fun _ _ _ _ q => q⟩
theorem tgl_nil : TgL K gNil [] [] := fun vs H h => by
  cases h
  exact ⟨[], .nil, fun _ _ _ _ q => ⟨rfl, q⟩⟩
theorem tgl_cons (h : Tg K g d js) (t : TgL K gs ds js') : TgL K (gCons g gs) (d :: ds) (js ++ js') := fun vs H q => by
  cases q with
  | cons a b =>
    obtain ⟨w1, p1, q1⟩ := h _ H (.inl a)
    obtain ⟨w2, p2, q2⟩ := t _ H b
    refine ⟨w1 ++ w2, JW.append p1 p2, fun H' e σ Q z => ⟨_, _, rfl, q1 H' e σ _ (q2 H' e _ _ ?_)⟩⟩
    rw [setW_append] at z
    exact z
theorem tg_tup (h : TgL K gs ds js) (hn : ds.length = n) : Tg K (gTup K n gs) (.tuple ds) js := fun v H r => by
  obtain ⟨a, vs, rfl, hs, hd⟩ := r.tup
  obtain ⟨ws, p, q⟩ := h _ H hd
  exact ⟨ws, p, fun H' e σ Q z => ⟨a, vs, rfl, ex_t e hs, by rw [DpAll.length hd]; exact hn, q H' e σ Q z⟩⟩
end

/-! ### what is walked -/
def WalksD (K : PySem.W.Frag) (J : It) (B : Hp) (ds : List D) : Prop :=
  ∀ H', Ex B H' → (∀ (i : Nat) d, ds[i]? = some d → J.go i H' ∧ ∀ x H'', J.yld i H' x H'' → Ex H' H'' ∧ Rp K B x d) ∧ J.stop ds.length H'
def EvIt (K : PySem.W.Frag) (wi : TI) (Γ : G) (ds : List D) : Prop := ∀ σ H, EnvOk K H σ Γ → ∀ R : It → Hp → Prop, (∀ J H', Ex H H' → WalksD K J H' ds → R J H') → wi σ H R
/-- .. by what does not change with a list -/
def EvItM (K : PySem.W.Frag) (wi : TI) (Γ : G) (ds : List D) : Prop := ∀ σ H, EnvOk K H σ Γ → ∀ R : It → Hp → Prop, (∀ J H', Ex H H' → (∀ D xs, H D = some (.lst xs) → WalksD K J (del H' D) ds) → R J H') → wi σ H R
def rgI (lo : Int) (n : Nat) : List Int := (List.range n).map fun (i : Nat) => lo + (i : Int)
theorem rgI_length (lo : Int) (n : Nat) : (rgI lo n).length = n := by simp [rgI]
theorem rgI_get {lo : Int} {n i : Nat} (h : i < n) : (rgI lo n)[i]? = some (lo + (i : Int)) := by simp [rgI, h]
theorem mem_rgI {lo x : Int} {n : Nat} : x ∈ rgI lo n ↔ lo ≤ x ∧ x < lo + n := by
  simp only [rgI, List.mem_map, List.mem_range]
  constructor
  · rintro ⟨i, h, rfl⟩; omega
  · rintro ⟨h1, h2⟩
    exact ⟨(x - lo).toNat, by omega, by omega⟩
section
variable {K : PySem.W.Frag} {Γ : G} {ta : TA} {tl : TE}
theorem walks_rng (B : Hp) (lo : Int) (n : Nat) : WalksD K (Itr lo n) B ((rgI lo n).map .int) := fun H' _ => by
  refine ⟨fun i d h => ?_, ?_⟩
  · have hi : i < n := by
      obtain ⟨q, _⟩ := List.getElem?_eq_some_iff.mp h
      simpa [rgI_length] using q
    rw [List.getElem?_map, rgI_get hi] at h
    cases h
    exact ⟨hi, fun x H'' y => by
      obtain ⟨e1, e2⟩ := y
      subst e1 e2
      exact ⟨Ex.refl _, .inl (.int _)⟩⟩
  · show n ≤ _
    simp [rgI_length]
theorem it_rng1 {n : Int} (h : EvAs K ta Γ [.int n]) (hn : -(2 ^ 62) ≤ n ∧ n < 2 ^ 62) : EvIt K (iRng1 ta) Γ ((rgI 0 n.toNat).map .int) := fun σ H E R q =>
  h σ H E _ fun vs H1 e1 r => by
    obtain ⟨v, rfl, r1⟩ := rp1 r
    exact ⟨n, by rw [r1.int], hn.1, hn.2, q _ H1 e1 (walks_rng H1 0 n.toNat)⟩
theorem it_rng2 {lo n : Int} (h : EvAs K ta Γ [.int lo, .int n]) (hn : -(2 ^ 62) ≤ lo ∧ lo < 2 ^ 62 ∧ -(2 ^ 62) ≤ n ∧ n < 2 ^ 62) : EvIt K (iRng2 ta) Γ ((rgI lo (n - lo).toNat).map .int) := fun σ H E R q =>
  h σ H E _ fun vs H1 e1 r => by
    obtain ⟨v, w, rfl, r1, r2⟩ := rp2 r
    exact ⟨lo, n, by rw [r1.int, r2.int], hn, q _ H1 e1 (walks_rng H1 lo _)⟩
theorem itm_rng1 {n : Int} (h : EvAs K ta Γ [.int n]) (hn : -(2 ^ 62) ≤ n ∧ n < 2 ^ 62) : EvItM K (iRng1 ta) Γ ((rgI 0 n.toNat).map .int) := fun σ H E R q =>
  h σ H E _ fun vs H1 e1 r => by
    obtain ⟨v, rfl, r1⟩ := rp1 r
    exact ⟨n, by rw [r1.int], hn.1, hn.2, q _ H1 e1 fun D _ _ => walks_rng _ 0 n.toNat⟩
theorem itm_rng2 {lo n : Int} (h : EvAs K ta Γ [.int lo, .int n]) (hn : -(2 ^ 62) ≤ lo ∧ lo < 2 ^ 62 ∧ -(2 ^ 62) ≤ n ∧ n < 2 ^ 62) : EvItM K (iRng2 ta) Γ ((rgI lo (n - lo).toNat).map .int) := fun σ H E R q =>
  h σ H E _ fun vs H1 e1 r => by
    obtain ⟨v, w, rfl, r1, r2⟩ := rp2 r
    exact ⟨lo, n, by rw [r1.int, r2.int], hn, q _ H1 e1 fun D _ _ => walks_rng _ lo _⟩
theorem walks_tup {B : Hp} {a : Addr} {vs : List V} {ds : List D} (hs : SqT K B a vs) (hd : DpAll K B vs ds) : WalksD K (Itt K a) B ds := fun H' e => by
  have hs' := ex_t e hs
  have hl := DpAll.length hd
  refine ⟨fun i d h => ?_, ⟨vs, hs', by omega⟩⟩
  obtain ⟨v, h1, h2⟩ := DpAll.get hd h
  refine ⟨⟨vs, v, hs', h1⟩, fun x H'' y => ?_⟩
  obtain ⟨e1, e2⟩ := y
  subst e1
  have := e2 vs hs'
  rw [h1] at this
  cases this
  exact ⟨Ex.refl _, .inl h2⟩
theorem walks_lst {B : Hp} {a : Addr} {vs : List V} {ds : List D} (hs : SqL K B a vs) (hd : DpAll K B vs ds) : WalksD K (Itl K a) B ds := fun H' e => by
  have hs' := ex_l e hs
  have hl := DpAll.length hd
  refine ⟨fun i d h => ?_, ⟨vs, hs', by omega⟩⟩
  obtain ⟨v, h1, h2⟩ := DpAll.get hd h
  refine ⟨⟨vs, v, hs', h1⟩, fun x H'' y => ?_⟩
  obtain ⟨e1, e2⟩ := y
  subst e1
  have := e2 vs hs'
  rw [h1] at this
  cases this
  exact ⟨Ex.refl _, .inl h2⟩
theorem it_tup {ds : List D} (h : EvR K tl Γ (.tuple ds)) : EvIt K (iTup K tl) Γ ds := fun σ H E R q =>
  h σ H E _ fun v H1 e1 r => by
    obtain ⟨a, vs, rfl, hs, hd⟩ := r.tup
    exact ⟨a, rfl, ⟨vs, hs⟩, q _ H1 e1 (walks_tup hs hd)⟩
theorem it_lst {ds : List D} (h : EvR K tl Γ (.list ds)) : EvIt K (iList K tl) Γ ds := fun σ H E R q =>
  h σ H E _ fun v H1 e1 r => by
    obtain ⟨a, vs, rfl, hs, hd⟩ := r.lst
    exact ⟨a, rfl, ⟨vs, hs⟩, q _ H1 e1 (walks_lst hs hd)⟩
theorem itm_tup {ds : List D} (h : EvR K tl Γ (.tuple ds)) (n : noLs ds = true) : EvItM K (iTup K tl) Γ ds := fun σ H E R q =>
  h σ H E _ fun v H1 e1 r => by
    obtain ⟨a, vs, rfl, hs, hd⟩ := r.tup
    exact ⟨a, rfl, ⟨vs, hs⟩, q _ H1 e1 fun D xs hD => walks_tup (del_sqT (e1 _ _ hD) _ _ hs) (DpAll.mapT (del_sqT (e1 _ _ hD)) _ _ n hd)⟩
end

/-! ### a value that no elder list bears -/
def EvM (K : PySem.W.Frag) (te : TE) (Γ : G) (d : D) : Prop := ∀ σ H, EnvOk K H σ Γ → ∀ Q : VK, (∀ v H', Ex H H' → (∀ D xs, H D = some (.lst xs) → Dp K (del H' D) v d) → Q v H') → te σ H Q
section
variable {K : PySem.W.Frag} {Γ : G} {ta : TA} {te : TE} {d : D}
theorem noL_dict : ∀ {d : D}, noL d = true → isDict d = false
  | .none, _ => rfl
  | .bool _, _ => rfl
  | .int _, _ => rfl
  | .str _, _ => rfl
  | .tuple _, _ => rfl
  | .list _, n => by simp [noL] at n
  | .dict _, n => by simp [noL] at n
theorem em_R (n : noL d = true) (h : EvR K te Γ d) : EvM K te Γ d := fun σ H E Q q => h σ H E Q fun v H' e r => q v H' e fun D xs hD => Dp.mapT (del_sqT (e _ _ hD)) d v n (r.dp (noL_dict n))
theorem em_F {ds : List D} (n : noLs ds = true) (h : EvF K te Γ ds) : EvM K te Γ (.list ds) := fun σ H E Q q => h σ H E Q fun p vs H' np e hp hd => q _ H' e fun D xs hD => by
  have ne : p ≠ D := fun z => by subst z; rw [np] at hD; cases hD
  exact .lst (sq_of (by rw [del_ne ne]; exact hp)) (DpAll.mapT (del_sqT (e _ _ hD)) _ _ n hd)
end

/-! ### list comprehensions -/
theorem take_succ_fm {α β : Type} (f : α → Bool) (v : α → β) (l : List α) (i : Nat) (a : α) (h : l[i]? = some a) : ((l.take (i + 1)).filter f).map v = ((l.take i).filter f).map v ++ (if f a then [v a] else []) := by
  rw [List.take_add_one, h, List.filter_append, List.map_append]
  cases h : f a <;> simp [h]
theorem filter_len_le {α : Type} (f : α → Bool) (l : List α) : (l.filter f).length ≤ l.length := List.length_filter_le f l
/-- the comprehension's list D: what it holds -/
def Cw (K : PySem.W.Frag) (H0 : Hp) (D : Addr) (ds : List PyData) (H : Hp) : Prop := Ex H0 (del H D) ∧ ∃ vs, H D = some (.lst vs) ∧ DpAll K (del H D) vs ds
section
variable {K : PySem.W.Frag} {H0 H : Hp} {D : Addr} {ds : List PyData}
theorem Cw.ex (n : H0 D = none) (h : Cw K H0 D ds H) : Ex H0 H := fun a o q => by
  have := h.1 a o q
  exact del_ex a o this
theorem Cw.new (n : H0 D = none) : Cw K H0 D [] (upd H0 D (.lst [])) := ⟨del_of n (Ex.new n), [], upd_same, .nil⟩
theorem Cw.mono {H' : Hp} (e : Ex H H') (h : Cw K H0 D ds H) : Cw K H0 D ds H' := by
  obtain ⟨a, vs, b, c⟩ := h
  exact ⟨a.trans (del_mono e), vs, e _ _ b, DpAll.mono (del_mono e) c⟩
/-- one more item -/
theorem Cw.snoc {v : V} {d : PyData} (h : Cw K H0 D ds H) (r : Dp K (del H D) v d) (hz : ds.length < 100000) : ∃ acc, H D = some (.lst acc) ∧ acc.length < sizeLine ∧ Cw K H0 D (ds ++ [d]) (upd H D (.lst (acc ++ [v]))) := by
  obtain ⟨a, vs, b, c⟩ := h
  refine ⟨vs, b, sz_lt (by rw [DpAll.length c]; exact hz), ?_, vs ++ [v], upd_same, ?_⟩
  · exact a.trans (del_upd (Ex.refl H))
  · exact DpAll.append (DpAll.mono (del_upd (Ex.refl H)) c) (.cons (Dp.mono (del_upd (Ex.refl H)) r) .nil)
end
section
variable {K : PySem.W.Frag} {Γ : G} {wi wi1 : TI} {g g1 : TG} {tt tt1 : TT} {te : TE} {vs vs1 : List Nat} {α β : Type}
theorem ef_lc (src : List α) (emb : α → D) (jd : α → List (Nat × D)) (f : α → Bool) (v : α → D) (hi : EvIt K wi Γ (src.map emb)) (hg : ∀ a ∈ src, Tg K g (emb a) (jd a)) (hj : ∀ a ∈ src, ∀ p ∈ jd a, p.1 ∈ vs)
    (ht : ∀ a ∈ src, EvB K tt (setJ (wipeG Γ vs) (jd a)) (f a)) (he : ∀ a ∈ src, f a = true → EvM K te (setJ (wipeG Γ vs) (jd a)) (v a)) (hl : src.length ≤ 100000) : EvF K (tLc wi g tt te vs) Γ ((src.filter f).map v) := fun σ H E Q q =>
  hi σ H E _ fun J H1 e1 w => fun Dl hD => by
    refine ⟨fun i m H' => m = src.length - i ∧ i ≤ src.length ∧ Cw K H1 Dl (((src.take i).filter f).map v) H', ⟨src.length, by simp, Nat.zero_le _, by simpa using Cw.new hD⟩, ?_⟩
    rintro i m H' ⟨rfl, hi', cw⟩
    have ex := cw.ex hD
    obtain ⟨w1, w2⟩ := w H' ex
    by_cases hlt : i < src.length
    · have hsrc : src[i]? = some src[i] := List.getElem?_eq_getElem hlt
      have hmem : src[i] ∈ src := List.getElem_mem hlt
      obtain ⟨go, step⟩ := w1 i (emb src[i]) (by rw [List.getElem?_map, hsrc]; rfl)
      refine .inr ⟨go, fun H'' => Cw K H1 Dl (((src.take (i + 1)).filter f).map v) H'', fun H'' p => ⟨src.length - (i + 1), by omega, rfl, hlt, p⟩, fun x H2 y => ?_⟩
      obtain ⟨e2, rx⟩ := step x H2 y
      obtain ⟨ws, jw, gq⟩ := hg _ hmem x H1 rx
      refine gq H2 (ex.trans e2) _ _ ⟨wipe_eq (by rw [setW_length, wipe_length]) fun k hk => ?_, ?_⟩
      · rw [setW_out ws _ fun p hp (z : p.1 = k) => hk (by rw [← z]; exact jw.keys (hj _ hmem) p hp), wipe_get hk]
      · have E1 : EnvOk K H1 (setW (wipe σ vs) ws) (setJ (wipeG Γ vs) (jd src[i])) := jw.env ((E.mono e1).wipe vs)
        have E2 := E1.mono (ex.trans e2)
        refine ht _ hmem _ H2 E2 _ fun H3 e3 => ?_
        have cw3 : Cw K H1 Dl (((src.take i).filter f).map v) H3 := (cw.mono e2).mono e3
        have tk := take_succ_fm f v src i src[i] hsrc
        cases hf : f src[i] with
        | false =>
          show Cw K H1 Dl (((src.take (i + 1)).filter f).map v) H3
          rw [tk, hf]
          simpa using cw3
        | true =>
          show te (setW (wipe σ vs) ws) H3 fun y H4 => ∃ acc, H4 Dl = some (.lst acc) ∧ acc.length < sizeLine ∧ Cw K H1 Dl (((src.take (i + 1)).filter f).map v) (upd H4 Dl (.lst (acc ++ [y])))
          refine he _ hmem hf _ H3 (E2.mono e3) _ fun y H4 e4 ry => ?_
          obtain ⟨acc0, hacc, _⟩ := cw3.2
          rw [tk, hf]
          exact (cw3.mono e4).snoc (ry Dl _ hacc) (by
            rw [List.length_map]
            have := filter_len_le f (src.take i)
            rw [List.length_take] at this
            omega)
    · have hii : i = src.length := by omega
      subst hii
      rw [List.length_map] at w2
      rw [List.take_length] at cw
      obtain ⟨vs', hv1, hv2⟩ := cw.2
      exact .inl ⟨w2, q Dl vs' H' (fresh_back e1 hD) (e1.trans ex) hv1 (DpAll.mono del_ex hv2)⟩
/-- two clauses, the first one without a test -/
theorem ef_lc2 (src : List α) (emb : α → D) (jd : α → List (Nat × D)) (src1 : α → List β) (emb1 : α → β → D) (jd1 : α → β → List (Nat × D)) (f : α → β → Bool) (v : α → β → D)
    (hi : EvIt K wi Γ (src.map emb)) (hg : ∀ a ∈ src, Tg K g (emb a) (jd a)) (hj : ∀ a ∈ src, ∀ p ∈ jd a, p.1 ∈ vs)
    (hi1 : ∀ a ∈ src, EvItM K wi1 (setJ (wipeG Γ vs) (jd a)) ((src1 a).map (emb1 a)))
    (hg1 : ∀ a ∈ src, ∀ b ∈ src1 a, Tg K g1 (emb1 a b) (jd1 a b)) (hj1 : ∀ a ∈ src, ∀ b ∈ src1 a, ∀ p ∈ jd1 a b, p.1 ∈ vs1)
    (ht : ∀ a ∈ src, ∀ b ∈ src1 a, EvB K tt1 (setJ (wipeG (setJ (wipeG Γ vs) (jd a)) vs1) (jd1 a b)) (f a b)) (he : ∀ a ∈ src, ∀ b ∈ src1 a, f a b = true → EvM K te (setJ (wipeG (setJ (wipeG Γ vs) (jd a)) vs1) (jd1 a b)) (v a b))
    (hl : ∀ i, ((src.take i).flatMap fun a => ((src1 a).filter (f a)).map (v a)).length ≤ 50000) (hl1 : ∀ a ∈ src, (src1 a).length ≤ 40000) : EvF K (tLc2 wi g tYes wi1 g1 tt1 te vs vs1) Γ (src.flatMap fun a => ((src1 a).filter (f a)).map (v a)) := fun σ H E Q q =>
  hi σ H E _ fun J H1 e1 w => fun Dl hD => by
    refine ⟨fun i m H' => m = src.length - i ∧ i ≤ src.length ∧ Cw K H1 Dl ((src.take i).flatMap fun a => ((src1 a).filter (f a)).map (v a)) H', ⟨src.length, by simp, Nat.zero_le _, by simpa using Cw.new hD⟩, ?_⟩
    rintro i m H' ⟨rfl, hi', cw⟩
    have ex := cw.ex hD
    obtain ⟨w1, w2⟩ := w H' ex
    by_cases hlt : i < src.length
    · have hsrc : src[i]? = some src[i] := List.getElem?_eq_getElem hlt
      have hmem : src[i] ∈ src := List.getElem_mem hlt
      obtain ⟨go, step⟩ := w1 i (emb src[i]) (by rw [List.getElem?_map, hsrc]; rfl)
      refine .inr ⟨go, fun H'' => Cw K H1 Dl ((src.take (i + 1)).flatMap fun a => ((src1 a).filter (f a)).map (v a)) H'', fun H'' p => ⟨src.length - (i + 1), by omega, rfl, hlt, p⟩, fun x H2 y => ?_⟩
      obtain ⟨e2, rx⟩ := step x H2 y
      obtain ⟨ws, jw, gq⟩ := hg _ hmem x H1 rx
      refine gq H2 (ex.trans e2) _ _ ⟨wipe_eq (by rw [setW_length, wipe_length]) fun k hk => ?_, ?_⟩
      · rw [setW_out ws _ fun p hp (z : p.1 = k) => hk (by rw [← z]; exact jw.keys (hj _ hmem) p hp), wipe_get hk]
      · have E1 : EnvOk K H1 (setW (wipe σ vs) ws) (setJ (wipeG Γ vs) (jd src[i])) := jw.env ((E.mono e1).wipe vs)
        have E2 := E1.mono (ex.trans e2)
        show wi1 (setW (wipe σ vs) ws) H2 _
        refine hi1 _ hmem _ H2 E2 _ fun J1 H4 e4 w4 => ?_
        have cw4 : Cw K H1 Dl ((src.take i).flatMap fun a => ((src1 a).filter (f a)).map (v a)) H4 := (cw.mono e2).mono e4
        obtain ⟨acc0, hacc, _⟩ := (cw.mono e2).2
        have w5 := w4 Dl _ hacc
        have tk : (src.take (i + 1)).flatMap (fun a => ((src1 a).filter (f a)).map (v a)) = (src.take i).flatMap (fun a => ((src1 a).filter (f a)).map (v a)) ++ ((src1 src[i]).filter (f src[i])).map (v src[i]) := by
          rw [List.take_add_one, hsrc, List.flatMap_append]
          simp
        -- the inner loop: all but Dl stays
        refine ⟨fun j k H' => k = (src1 src[i]).length - j ∧ j ≤ (src1 src[i]).length ∧ Ex (del H4 Dl) (del H' Dl) ∧ Cw K H1 Dl ((src.take i).flatMap (fun a => ((src1 a).filter (f a)).map (v a)) ++ (((src1 src[i]).take j).filter (f src[i])).map (v src[i])) H',
          ⟨_, rfl, Nat.zero_le _, Ex.refl _, by simpa using cw4⟩, ?_⟩
        rintro j k H5 ⟨rfl, hj', ex5, cw5⟩
        obtain ⟨x1, x2⟩ := w5 H5 (ex5.trans del_ex)
        by_cases hlt1 : j < (src1 src[i]).length
        · have hs1 : (src1 src[i])[j]? = some (src1 src[i])[j] := List.getElem?_eq_getElem hlt1
          have hm1 : (src1 src[i])[j] ∈ src1 src[i] := List.getElem_mem hlt1
          obtain ⟨go1, step1⟩ := x1 j (emb1 src[i] (src1 src[i])[j]) (by rw [List.getElem?_map, hs1]; rfl)
          refine .inr ⟨go1, fun H' => Ex (del H4 Dl) (del H' Dl) ∧ Cw K H1 Dl ((src.take i).flatMap (fun a => ((src1 a).filter (f a)).map (v a)) ++ (((src1 src[i]).take (j + 1)).filter (f src[i])).map (v src[i])) H',
            fun H' p => ⟨(src1 src[i]).length - (j + 1), by omega, rfl, hlt1, p⟩, fun x H6 y => ?_⟩
          obtain ⟨e6, rx1⟩ := step1 x H6 y
          have ex6 : Ex (del H4 Dl) H6 := (ex5.trans del_ex).trans e6
          obtain ⟨ws1, jw1, gq1⟩ := hg1 _ hmem _ hm1 x (del H4 Dl) rx1
          refine gq1 H6 ex6 _ _ ⟨wipe_eq (by rw [setW_length, wipe_length]) fun k hk => ?_, ?_⟩
          · rw [setW_out ws1 _ fun p hp (z : p.1 = k) => hk (by rw [← z]; exact jw1.keys (hj1 _ hmem _ hm1) p hp), wipe_get hk]
          · have E4 : EnvOk K (del H4 Dl) (setW (wipe σ vs) ws) (setJ (wipeG Γ vs) (jd src[i])) := E1.mono (cw.1.trans (del_mono (e2.trans e4)))
            have E6 : EnvOk K H6 (setW (wipe (setW (wipe σ vs) ws) vs1) ws1) (setJ (wipeG (setJ (wipeG Γ vs) (jd src[i])) vs1) (jd1 src[i] (src1 src[i])[j])) := (jw1.env (E4.wipe vs1)).mono ex6
            refine ht _ hmem _ hm1 _ H6 E6 _ fun H7 e7 => ?_
            have cw7 := (cw5.mono e6).mono e7
            have ex7 : Ex (del H4 Dl) (del H7 Dl) := ex5.trans (del_mono (e6.trans e7))
            have tk1 := take_succ_fm (f src[i]) (v src[i]) (src1 src[i]) j (src1 src[i])[j] hs1
            cases hf : f src[i] (src1 src[i])[j] with
            | false =>
              show Ex (del H4 Dl) (del H7 Dl) ∧ Cw K H1 Dl ((src.take i).flatMap (fun a => ((src1 a).filter (f a)).map (v a)) ++ (((src1 src[i]).take (j + 1)).filter (f src[i])).map (v src[i])) H7
              rw [tk1, hf]
              exact ⟨ex7, by simpa using cw7⟩
            | true =>
              show te (setW (wipe (setW (wipe σ vs) ws) vs1) ws1) H7 fun y H8 => ∃ acc, H8 Dl = some (.lst acc) ∧ acc.length < sizeLine ∧ Ex (del H4 Dl) (del (upd H8 Dl (.lst (acc ++ [y]))) Dl) ∧ Cw K H1 Dl ((src.take i).flatMap (fun a => ((src1 a).filter (f a)).map (v a)) ++ (((src1 src[i]).take (j + 1)).filter (f src[i])).map (v src[i])) (upd H8 Dl (.lst (acc ++ [y])))
              refine he _ hmem _ hm1 hf _ H7 (E6.mono e7) _ fun y H8 e8 ry => ?_
              obtain ⟨acc0, hacc7, _⟩ := cw7.2
              rw [tk1, hf]
              obtain ⟨acc, a1, a2, a3⟩ := (cw7.mono e8).snoc (ry Dl _ hacc7) (by
                have b1 := hl i
                have b2 := hl1 _ hmem
                have b3 := filter_len_le (f src[i]) ((src1 src[i]).take j)
                have b4 : ((src1 src[i]).take j).length ≤ (src1 src[i]).length := by rw [List.length_take]; omega
                rw [List.length_append, List.length_map]
                omega)
              refine ⟨acc, a1, a2, ex7.trans (del_upd e8), ?_⟩
              simpa using a3
        · have hjj : j = (src1 src[i]).length := by omega
          subst hjj
          rw [List.length_map] at x2
          rw [List.take_length] at cw5
          refine .inl ⟨x2, ?_⟩
          show Cw K H1 Dl ((src.take (i + 1)).flatMap fun a => ((src1 a).filter (f a)).map (v a)) H5
          rw [tk]
          exact cw5
    · have hii : i = src.length := by omega
      subst hii
      rw [List.length_map] at w2
      rw [List.take_length] at cw
      obtain ⟨vs', hv1, hv2⟩ := cw.2
      exact .inl ⟨w2, q Dl vs' H' (fresh_back e1 hD) (e1.trans ex) hv1 (DpAll.mono del_ex hv2)⟩
end
end KW

set_option Elab.async false
set_option linter.all false
set_option maxRecDepth 100000
set_option maxHeartbeats 4000000
/-! statements by data: slots that hold data that does not change, and lists and dicts of the def's own -/
namespace KW
open PySem PySem.Spec PyProof.Rows L2 Evl

inductive Sl where
  | no
  | im (d : D)
  | ow (ds : List D)
  | dk (kvs : List (Int × Int))
  | mt (rows : List (List Int))
  | pl (l c : Addr) (m : Nat)
def Sl.toD : Sl → Option D
  | .no => none
  | .im d => some d
  | .ow ds => some (.list ds)
  | .dk kvs => some (dI kvs)
  | .mt rows => some (.list (rows.map lI))
  | .pl _ _ _ => none
abbrev SS := List Sl
def gm (S : SS) : G := S.map Sl.toD
def Own (K : PySem.W.Frag) (e : Sl) (v : V) (Hm H : Hp) (as : List Addr) : Prop := match e with
  | .no => as = []
  | .im d => Rp K Hm v d ∧ as = []
  | .ow ds => ∃ l vs, v = .ref l ∧ as = [l] ∧ H l = some (.lst vs) ∧ DpAll K Hm vs ds
  | .dk kvs => ∃ l, v = .ref l ∧ as = [l] ∧ H l = some (.dK (kvs.map kvV))
  | .mt rows => ∃ l, v = .ref l ∧ Hm l = some (.lst (as.map .ref)) ∧ Paired (fun a row => H a = some (.lst (row.map .int))) as rows ∧ as.Nodup
  | .pl l c m => ∃ (r : Addr) (ns : List Int) (at' : Int), v = .ref l ∧ as = [c] ∧ Hm l = some (.lst [.ref r, .ref c]) ∧ Hm r = some (.lst (ns.map .int)) ∧ H c = some (.lst [.int at']) ∧ 0 ≤ at' ∧ at' ≤ (m : Int) ∧ 0 < ns.length ∧ ns.length ≤ 80 ∧ ∀ x ∈ ns, 0 ≤ x ∧ x < (4096 : Int)
structure SA (K : PySem.W.Frag) (Hm H : Hp) (σ : L2.St) (S : SS) (A : Nat → List Addr) : Prop where
  ex : Ex Hm H
  len : S.length = σ.length
  own : ∀ (i : Nat) e, S[i]? = some e → e ≠ .no → ∃ v, σ[i]? = some (some v) ∧ Own K e v Hm H (A i)
  empty : ∀ (i : Nat), (S[i]? = none ∨ S[i]? = some .no) → A i = []
  sep : ∀ (i j : Nat) a, i ≠ j → a ∈ A i → a ∈ A j → False
  out : ∀ (i : Nat) a, a ∈ A i → Hm a = none
def isImm : HO → Bool
  | .tup _ => true
  | .frz _ _ => true
  | _ => false
section
variable {K : PySem.W.Frag} {e : Sl} {v : V} {Hm Hm' H H' : Hp} {as : List Addr} {σ : L2.St} {S : SS} {A : Nat → List Addr}
theorem Paired.memL {α β : Type} {F : α → β → Prop} : ∀ {l₁ : List α} {l₂ : List β} {a : α}, Paired F l₁ l₂ → a ∈ l₁ → ∃ b, F a b
  | _, _, _, .nil, h => by cases h
  | _, _, a, .cons h t, m => by
    rcases List.mem_cons.mp m with rfl | m
    · exact ⟨_, h⟩
    · exact Paired.memL t m
theorem Own.kept (h : Own K e v Hm H as) (e1 : Ex Hm Hm') (e2 : ∀ a ∈ as, ∀ o, H a = some o → H' a = some o) : Own K e v Hm' H' as := by
  cases e with
  | no => exact h
  | im d => exact ⟨h.1.mono e1, h.2⟩
  | ow ds =>
    obtain ⟨l, vs, a, b, c, d⟩ := h
    subst b
    exact ⟨l, vs, a, rfl, e2 l (by simp) _ c, DpAll.mono e1 d⟩
  | dk kvs =>
    obtain ⟨l, a, b, c⟩ := h
    subst b
    exact ⟨l, a, rfl, e2 l (by simp) _ c⟩
  | mt rows =>
    obtain ⟨l, a, b, c, d⟩ := h
    refine ⟨l, a, e1 _ _ b, ?_, d⟩
    clear b d
    induction c with
    | nil => exact .nil
    | cons h t ih => exact .cons (e2 _ (by simp) _ h) (ih fun a ha => e2 a (by simp [ha]))
  | pl l c m =>
    obtain ⟨r, ns, at', a, b, c1, c2, c3, c4⟩ := h
    subst b
    exact ⟨r, ns, at', a, rfl, e1 _ _ c1, e1 _ _ c2, e2 c (by simp) _ c3, c4⟩
theorem Own.there (h : Own K e v Hm H as) : ∀ a ∈ as, ∃ o, H a = some o ∧ isImm o = false := fun a ha => by
  cases e with
  | no => rw [show as = [] from h] at ha; cases ha
  | im d => rw [h.2] at ha; cases ha
  | ow ds =>
    obtain ⟨l, vs, _, b, c, _⟩ := h
    subst b
    rw [List.mem_singleton.mp ha]
    exact ⟨_, c, rfl⟩
  | dk kvs =>
    obtain ⟨l, _, b, c⟩ := h
    subst b
    rw [List.mem_singleton.mp ha]
    exact ⟨_, c, rfl⟩
  | mt rows =>
    obtain ⟨l, _, b, c, _⟩ := h
    obtain ⟨row, q⟩ := Paired.memL c ha
    exact ⟨_, q, rfl⟩
  | pl l c m =>
    obtain ⟨r, ns, at', _, b, _, _, c3, _⟩ := h
    subst b
    rw [List.mem_singleton.mp ha]
    exact ⟨_, c3, rfl⟩
theorem rows_dp {K : PySem.W.Frag} {H : Hp} : ∀ {as : List Addr} {rows : List (List Int)}, Paired (fun a row => H a = some (.lst (row.map .int))) as rows → DpAll K H (as.map .ref) (rows.map lI)
  | _, _, .nil => .nil
  | _, _, .cons h t => .cons (.lst (sq_of h) (DpAll.of_ints _)) (rows_dp t)
theorem Own.rp {d : D} (h : Own K e v Hm H as) (x : Ex Hm H) (q : e.toD = some d) : Rp K H v d := by
  cases e with
  | no => cases q
  | im d' => cases q; exact h.1.mono x
  | ow ds =>
    cases q
    obtain ⟨l, vs, rfl, _, c, d⟩ := h
    exact .inl (.lst (sq_of c) (DpAll.mono x d))
  | dk kvs =>
    cases q
    obtain ⟨l, rfl, _, c⟩ := h
    exact .inr ⟨l, kvs, rfl, rfl, c⟩
  | mt rows =>
    cases q
    obtain ⟨l, rfl, b, c, _⟩ := h
    exact .inl (.lst (sq_of (x _ _ b)) (rows_dp c))
  | pl l c m => cases q
theorem SA.env (h : SA K Hm H σ S A) : EnvOk K H σ (gm S) := by
  refine ⟨by simp [gm, h.len], fun i d q => ?_⟩
  unfold gm at q
  rw [List.getElem?_map] at q
  cases hs : S[i]? with
  | none => rw [hs] at q; cases q
  | some e =>
    rw [hs] at q
    have q' : e.toD = some d := by simpa using q
    obtain ⟨v, a, b⟩ := h.own i e hs (by rintro rfl; cases q')
    exact ⟨v, a, b.rp h.ex q'⟩
open Classical in
noncomputable def strip (H : Hp) (A : Nat → List Addr) : Hp := fun a => if ∃ i, a ∈ A i then none else H a
theorem strip_in {a : Addr} {i : Nat} (h : a ∈ A i) : strip H A a = none := by unfold strip; rw [if_pos ⟨i, h⟩]
theorem strip_out {a : Addr} (h : ∀ i, a ∉ A i) : strip H A a = H a := by unfold strip; rw [if_neg (fun ⟨i, q⟩ => h i q)]
theorem strip_ex : Ex (strip H A) H := fun a o h => by
  by_cases q : ∃ i, a ∈ A i
  · obtain ⟨i, q⟩ := q
    rw [strip_in q] at h
    cases h
  · rw [strip_out fun i z => q ⟨i, z⟩] at h
    exact h
theorem SA.strip_of (h : SA K Hm H σ S A) (x : Ex H H') : Ex Hm (strip H' A) := fun a o q => by
  rw [strip_out]
  · exact x _ _ (h.ex a o q)
  · intro i hi
    rw [h.out i a hi] at q
    cases q
theorem SA.there (h : SA K Hm H σ S A) {i : Nat} {a : Addr} (ha : a ∈ A i) : ∃ o, H a = some o ∧ isImm o = false := by
  cases hs : S[i]? with
  | none => rw [h.empty i (.inl hs)] at ha; cases ha
  | some e =>
    by_cases he : e = .no
    · subst he
      rw [h.empty i (.inr hs)] at ha
      cases ha
    · obtain ⟨v, _, b⟩ := h.own i e hs he
      exact b.there a ha
theorem SA.grow (h : SA K Hm H σ S A) (x : Ex H H') : SA K (strip H' A) H' σ S A where
  ex := strip_ex
  len := h.len
  own := fun i e q n => by
    obtain ⟨v, a, b⟩ := h.own i e q n
    exact ⟨v, a, b.kept (h.strip_of x) fun c _ o z => x c o z⟩
  empty := h.empty
  sep := h.sep
  out := fun i a ha => strip_in ha
theorem SA.sqT (h : SA K Hm H σ S A) (x : Ex H H') : ∀ a ys, SqT K H' a ys → SqT K (strip H' A) a ys := fun a ys q => by
  have key : ∀ o, H' a = some o → isImm o = true → strip H' A a = some o := fun o ho hi => by
    rw [strip_out, ho]
    intro i ha
    obtain ⟨o', h1, h2⟩ := h.there ha
    rw [x _ _ h1] at ho
    cases ho
    rw [hi] at h2
    cases h2
  obtain ⟨i, q⟩ := q
  exact ⟨i, key _ q rfl⟩
/-- a slot anew -/
def setA (A : Nat → List Addr) (i : Nat) (as : List Addr) : Nat → List Addr := fun k => if k = i then as else A k
theorem setA_same {i : Nat} {as : List Addr} : setA A i as i = as := by unfold setA; rw [if_pos rfl]
theorem setA_ne {i k : Nat} {as : List Addr} (h : k ≠ i) : setA A i as k = A k := by unfold setA; rw [if_neg h]
theorem SA.put {i : Nat} {v : V} (h : SA K Hm H σ S A) (hi : i < S.length) (o : Own K e v Hm H as) (hs : ∀ j a, j ≠ i → a ∈ as → a ∈ A j → False) (ho : ∀ a ∈ as, Hm a = none) (hn : e = .no → as = []) : SA K Hm H (σ.set i (some v)) (S.set i e) (setA A i as) where
  ex := h.ex
  len := by simp [h.len]
  own := fun k e' q n => by
    by_cases hk : i = k
    · subst hk
      rw [List.getElem?_set_self hi] at q
      cases q
      exact ⟨v, by rw [List.getElem?_set_self (by rw [← h.len]; exact hi)], by rw [setA_same]; exact o⟩
    · rw [List.getElem?_set_ne hk] at q
      rw [List.getElem?_set_ne hk, setA_ne (Ne.symm hk)]
      exact h.own k e' q n
  empty := fun k q => by
    by_cases hk : i = k
    · subst hk
      rw [List.getElem?_set_self hi] at q
      rw [setA_same]
      rcases q with q | q
      · cases q
      · exact hn (Option.some.inj q)
    · rw [List.getElem?_set_ne hk] at q
      rw [setA_ne (Ne.symm hk)]
      exact h.empty k q
  sep := fun k j a hkj hk hj => by
    by_cases h1 : k = i
    · subst h1
      rw [setA_same] at hk
      rw [setA_ne (Ne.symm hkj)] at hj
      exact hs j a (Ne.symm hkj) hk hj
    · rw [setA_ne h1] at hk
      by_cases h2 : j = i
      · subst h2
        rw [setA_same] at hj
        exact hs k a h1 hj hk
      · rw [setA_ne h2] at hj
        exact h.sep k j a hkj hk hj
  out := fun k a ha => by
    by_cases h1 : k = i
    · subst h1
      rw [setA_same] at ha
      exact ho a ha
    · rw [setA_ne h1] at ha
      exact h.out k a ha
theorem SA.putIm {i : Nat} {d : D} (h : SA K Hm H σ S A) (hi : i < S.length) (r : Rp K Hm v d) : SA K Hm H (σ.set i (some v)) (S.set i (.im d)) (setA A i []) :=
  h.put (e := .im d) (as := []) hi ⟨r, rfl⟩ (fun _ _ _ z => by cases z) (fun _ z => by cases z) fun z => by cases z
/-- the base below: one address less (a new list) -/
theorem SA.less {p : Addr} (h : SA K Hm H σ S A) (hp : ∀ i, p ∉ A i) (hd : ∀ (i : Nat) e v, S[i]? = some e → e ≠ .no → σ[i]? = some (some v) → Own K e v Hm H (A i) → Own K e v (del Hm p) H (A i)) : SA K (del Hm p) H σ S A where
  ex := del_ex.trans h.ex
  len := h.len
  own := fun i e q n => by
    obtain ⟨v, a, b⟩ := h.own i e q n
    exact ⟨v, a, hd i e v q n a b⟩
  empty := h.empty
  sep := h.sep
  out := fun i a ha => by
    by_cases e : a = p
    · subst e; exact del_same
    · rw [del_ne e]; exact h.out i a ha
/-- an owned object is written -/
theorem SA.write {i : Nat} {a : Addr} {o : HO} {e' : Sl} {v : V} (h : SA K Hm H σ S A) (ha : a ∈ A i) (hv : σ[i]? = some (some v)) (ow : Own K e' v Hm (upd H a o) (A i)) (hn : e' ≠ .no) : SA K Hm (upd H a o) σ (S.set i e') A where
  ex := fun b u q => by
    have : b ≠ a := fun z => by subst z; rw [h.out i b ha] at q; cases q
    rw [upd_ne this]
    exact h.ex b u q
  len := by simp [h.len]
  own := fun k e q n => by
    by_cases hk : i = k
    · subst hk
      by_cases hi : i < S.length
      · rw [List.getElem?_set_self hi] at q
        cases q
        exact ⟨v, hv, ow⟩
      · rw [List.getElem?_eq_none (by simpa using hi)] at q
        cases q
    · rw [List.getElem?_set_ne hk] at q
      obtain ⟨v', x, y⟩ := h.own k e q n
      refine ⟨v', x, y.kept (Ex.refl _) fun c hc u z => ?_⟩
      have : c ≠ a := fun z => by subst z; exact h.sep i k c hk ha hc
      rw [upd_ne this]
      exact z
  empty := fun k q => by
    by_cases hk : i = k
    · subst hk
      by_cases hi : i < S.length
      · rw [List.getElem?_set_self hi] at q
        rcases q with q | q
        · cases q
        · exact absurd (Option.some.inj q) hn
      · exact h.empty i (.inl (List.getElem?_eq_none (by omega)))
    · rw [List.getElem?_set_ne hk] at q
      exact h.empty k q
  sep := h.sep
  out := h.out
end

/-! ### the state, over a base -/
def SB (K : PySem.W.Frag) (B H : Hp) (σ : L2.St) (S : SS) : Prop := ∃ Hm A, Ex B Hm ∧ SA K Hm H σ S A
theorem SB.mono {K : PySem.W.Frag} {B B' H : Hp} {σ : L2.St} {S : SS} (e : Ex B B') (h : SB K B' H σ S) : SB K B H σ S := let ⟨Hm, A, a, b⟩ := h; ⟨Hm, A, e.trans a, b⟩
theorem SB.ex {K : PySem.W.Frag} {B H : Hp} {σ : L2.St} {S : SS} (h : SB K B H σ S) : Ex B H := let ⟨_, _, a, b⟩ := h; a.trans b.ex
theorem SB.env {K : PySem.W.Frag} {B H : Hp} {σ : L2.St} {S : SS} (h : SB K B H σ S) : EnvOk K H σ (gm S) := let ⟨_, _, _, b⟩ := h; b.env
structure Post where
  nx : SS → Prop
  rt : VK
  bk : SS → Prop := fun _ => False
  ct : SS → Prop := fun _ => False
def Run (K : PySem.W.Frag) (B : Hp) (t : TS) (S : SS) (P : Post) : Prop :=
  ∀ B', Ex B B' → ∀ (D : Ends) σ H, SB K B' H σ S → (∀ σ' H' S', SB K B' H' σ' S' → P.nx S' → D.nx σ' H') → (∀ v H', P.rt v H' → D.rt v H') →
    (∀ σ' H' S', SB K B' H' σ' S' → P.bk S' → D.bk σ' H') → (∀ σ' H' S', SB K B' H' σ' S' → P.ct S' → D.ct σ' H') → t D σ H
section
variable {K : PySem.W.Frag} {B : Hp} {S : SS} {P : Post} {t u : TS} {te ta tb : TE} {tt : TT} {d d1 d2 : D} {ds es : List D} {i j : Nat} {b : Bool}
theorem run_nx (h : P.nx S) : Run K B tNext S P := fun B' e D σ H sb nx _ _ _ => nx σ H S sb h
theorem run_seq (h : Run K B t S { P with nx := fun S' => Run K B u S' P }) : Run K B (tSeq t u) S P := fun B' e D σ H sb nx rt bk ct =>
  h B' e { D with nx := u D } σ H sb (fun σ' H' S' sb' r => r B' e D σ' H' sb' nx rt bk ct) rt bk ct
theorem run_if (h : EvB K tt (gm S) b) (h1 : b = true → Run K B t S P) (h2 : b = false → Run K B u S P) : Run K B (tIfS tt t u) S P := fun B' e D σ H sb nx rt bk ct =>
  h σ H sb.env _ fun H1 e1 => by
    have sb1 : SB K B' H1 σ S := by
      obtain ⟨Hm, A, a, sa⟩ := sb
      exact ⟨_, A, a.trans (sa.strip_of e1), sa.grow e1⟩
    cases b with
    | true =>
      show t D σ H1
      exact h1 rfl B' e D σ H1 sb1 nx rt bk ct
    | false =>
      show u D σ H1
      exact h2 rfl B' e D σ H1 sb1 nx rt bk ct
theorem SB.grow {H H' : Hp} {σ : L2.St} (sb : SB K B H σ S) (e : Ex H H') : SB K B H' σ S := by
  obtain ⟨Hm, A, a, sa⟩ := sb
  exact ⟨_, A, a.trans (sa.strip_of e), sa.grow e⟩
/-- a value without lists is kept in a slot -/
theorem SB.putR {H H' : Hp} {σ : L2.St} {v : V} (sb : SB K B H σ S) (e : Ex H H') (n : noL d = true) (r : Rp K H' v d) (hi : i < S.length) : SB K B H' (σ.set i (some v)) (S.set i (.im d)) := by
  obtain ⟨Hm, A, a, sa⟩ := sb
  exact ⟨_, _, a.trans (sa.strip_of e), (sa.grow e).putIm hi (Rp.mapT (sa.sqT e) n r)⟩
theorem fresh_own {Hm H : Hp} {σ : L2.St} {A : Nat → List Addr} {p : Addr} (sa : SA K Hm H σ S A) (np : H p = none) : ∀ i, p ∉ A i := fun i hi => by
  obtain ⟨o, h1, _⟩ := sa.there hi
  rw [np] at h1
  cases h1
/-- a new list of one's own -/
theorem SB.putF {H H' : Hp} {σ : L2.St} {p : Addr} {vs : List V} (sb : SB K B H σ S) (e : Ex H H') (n : noLs ds = true) (np : H p = none) (hp : H' p = some (.lst vs)) (r : DpAll K H' vs ds) (hi : i < S.length) : SB K B H' (σ.set i (some (.ref p))) (S.set i (.ow ds)) := by
  obtain ⟨Hm, A, a, sa⟩ := sb
  have hA := fresh_own sa np
  have npm : Hm p = none := by
    cases q : Hm p with
    | none => rfl
    | some o => rw [sa.ex p o q] at np; cases np
  have e1 : Ex Hm (del (strip H' A) p) := fun c o q => by
    have : c ≠ p := fun z => by subst z; rw [npm] at q; cases q
    rw [del_ne this]
    exact sa.strip_of e c o q
  have sa1 : SA K (del (strip H' A) p) H' σ S A :=
    { ex := del_ex.trans strip_ex, len := sa.len, empty := sa.empty, sep := sa.sep
      own := fun i e' q m => by
        obtain ⟨v, x, y⟩ := sa.own i e' q m
        exact ⟨v, x, y.kept e1 fun c _ o z => e c o z⟩
      out := fun i c hc => by
        by_cases z : c = p
        · subst z; exact del_same
        · rw [del_ne z]; exact strip_in hc }
  have sp : strip H' A p = some (.lst vs) := by rw [strip_out hA]; exact hp
  refine ⟨_, _, a.trans e1, sa1.put (e := .ow ds) (as := [p]) hi ⟨p, vs, rfl, rfl, hp, ?_⟩ (fun k c _ hc hk => ?_) (fun c hc => ?_) (fun z => by cases z)⟩
  · exact DpAll.mapT (fun b ys q => del_sqT sp b ys (sa.sqT e b ys q)) ds vs n r
  · rw [List.mem_singleton.mp hc] at hk
    exact hA k hk
  · rw [List.mem_singleton.mp hc]; exact del_same
/-- a new list that will not change -/
theorem SB.putFi {H H' : Hp} {σ : L2.St} {p : Addr} {vs : List V} (sb : SB K B H σ S) (e : Ex H H') (n : noLs ds = true) (np : H p = none) (hp : H' p = some (.lst vs)) (r : DpAll K H' vs ds) (hi : i < S.length) : SB K B H' (σ.set i (some (.ref p))) (S.set i (.im (.list ds))) := by
  obtain ⟨Hm, A, a, sa⟩ := sb
  have hA := fresh_own sa np
  exact ⟨_, _, a.trans (sa.strip_of e), (sa.grow e).putIm hi (.inl (.lst (sq_of (by rw [strip_out hA]; exact hp)) (DpAll.mapT (sa.sqT e) ds vs n r)))⟩
theorem SB.putD {H H' : Hp} {σ : L2.St} {p : Addr} {kvs : List (Int × Int)} (sb : SB K B H σ S) (e : Ex H H') (np : H p = none) (hp : H' p = some (.dK (kvs.map kvV))) (hi : i < S.length) : SB K B H' (σ.set i (some (.ref p))) (S.set i (.dk kvs)) := by
  obtain ⟨Hm, A, a, sa⟩ := sb
  have hA := fresh_own sa np
  have npm : Hm p = none := by
    cases q : Hm p with
    | none => rfl
    | some o => rw [sa.ex p o q] at np; cases np
  have e1 : Ex Hm (del (strip H' A) p) := fun c o q => by
    have : c ≠ p := fun z => by subst z; rw [npm] at q; cases q
    rw [del_ne this]
    exact sa.strip_of e c o q
  have sa1 : SA K (del (strip H' A) p) H' σ S A :=
    { ex := del_ex.trans strip_ex, len := sa.len, empty := sa.empty, sep := sa.sep
      own := fun i e' q m => by
        obtain ⟨v, x, y⟩ := sa.own i e' q m
        exact ⟨v, x, y.kept e1 fun c _ o z => e c o z⟩
      out := fun i c hc => by
        by_cases z : c = p
        · subst z; exact del_same
        · rw [del_ne z]; exact strip_in hc }
  refine ⟨_, _, a.trans e1, sa1.put (e := .dk kvs) (as := [p]) hi ⟨p, rfl, rfl, hp⟩ (fun k c _ hc hk => ?_) (fun c hc => ?_) (fun z => by cases z)⟩
  · rw [List.mem_singleton.mp hc] at hk
    exact hA k hk
  · rw [List.mem_singleton.mp hc]; exact del_same
/-! name = value -/
theorem run_setR (h : EvR K te (gm S) d) (n : noL d = true) (hi : i < S.length) (k : P.nx (S.set i (.im d))) : Run K B (tAsg te (gName i)) S P := fun B' e D σ H sb nx rt bk ct =>
  h σ H sb.env _ fun v H1 e1 r1 => nx _ H1 _ (sb.putR e1 n r1 hi) k
theorem run_setF (h : EvF K te (gm S) ds) (n : noLs ds = true) (hi : i < S.length) (k : P.nx (S.set i (.ow ds))) : Run K B (tAsg te (gName i)) S P := fun B' e D σ H sb nx rt bk ct =>
  h σ H sb.env _ fun p vs H1 np e1 hp r1 => nx _ H1 _ (sb.putF e1 n np hp r1 hi) k
theorem run_setFi (h : EvF K te (gm S) ds) (n : noLs ds = true) (hi : i < S.length) (k : P.nx (S.set i (.im (.list ds)))) : Run K B (tAsg te (gName i)) S P := fun B' e D σ H sb nx rt bk ct =>
  h σ H sb.env _ fun p vs H1 np e1 hp r1 => nx _ H1 _ (sb.putFi e1 n np hp r1 hi) k
theorem run_setD {kvs : List (Int × Int)} (h : EvD K te (gm S) kvs) (hi : i < S.length) (k : P.nx (S.set i (.dk kvs))) : Run K B (tAsg te (gName i)) S P := fun B' e D σ H sb nx rt bk ct =>
  h σ H sb.env _ fun p H1 np e1 hp => nx _ H1 _ (sb.putD e1 np hp hi) k
/-! a, b = x, y -/
theorem run_parRR (ha : EvR K ta (gm S) d1) (hb : EvR K tb (gm S) d2) (n1 : noL d1 = true) (n2 : noL d2 = true) (hi : i < S.length) (hj : j < S.length) (k : P.nx ((S.set i (.im d1)).set j (.im d2))) : Run K B (tPar i j (tCons ta (tCons tb tNil))) S P := fun B' e D σ H sb nx rt bk ct =>
  ha σ H sb.env _ fun v H1 e1 r1 => hb σ H1 (sb.env.mono e1) _ fun w H2 e2 r2 => ⟨v, w, rfl, nx _ H2 _ ((sb.putR (e1.trans e2) n1 (r1.mono e2) hi).putR (Ex.refl H2) n2 r2 (by simpa using hj)) k⟩
theorem run_parRF (ha : EvR K ta (gm S) d1) (hb : EvF K tb (gm S) ds) (n1 : noL d1 = true) (n2 : noLs ds = true) (hi : i < S.length) (hj : j < S.length) (k : P.nx ((S.set i (.im d1)).set j (.ow ds))) : Run K B (tPar i j (tCons ta (tCons tb tNil))) S P := fun B' e D σ H sb nx rt bk ct =>
  ha σ H sb.env _ fun v H1 e1 r1 => hb σ H1 (sb.env.mono e1) _ fun p vs H2 np e2 hp r2 => ⟨v, _, rfl, nx _ H2 _ (((sb.putR e1 n1 r1 hi).putF e2 n2 np hp r2 (by simpa using hj))) k⟩
theorem run_parFR (ha : EvF K ta (gm S) ds) (hb : EvR K tb (gm S) d2) (n1 : noLs ds = true) (n2 : noL d2 = true) (hi : i < S.length) (hj : j < S.length) (k : P.nx ((S.set i (.ow ds)).set j (.im d2))) : Run K B (tPar i j (tCons ta (tCons tb tNil))) S P := fun B' e D σ H sb nx rt bk ct =>
  ha σ H sb.env _ fun p vs H1 np e1 hp r1 => hb σ H1 (sb.env.mono e1) _ fun w H2 e2 r2 => ⟨_, w, rfl, nx _ H2 _ (((sb.putF e1 n1 np hp r1 hi).putR e2 n2 r2 (by simpa using hj))) k⟩
/-! return -/
theorem run_retR (h : EvR K te (gm S) d) (k : ∀ v H', Ex B H' → Rp K H' v d → P.rt v H') : Run K B (tRet te) S P := fun B' e D σ H sb nx rt bk ct =>
  h σ H sb.env _ fun v H1 e1 r1 => rt v H1 (k v H1 ((e.trans sb.ex).trans e1) r1)
theorem run_retF (h : EvF K te (gm S) ds) (k : ∀ p vs H', B p = none → Ex B H' → H' p = some (.lst vs) → DpAll K H' vs ds → P.rt (.ref p) H') : Run K B (tRet te) S P := fun B' e D σ H sb nx rt bk ct =>
  h σ H sb.env _ fun p vs H1 np e1 hp r1 => rt _ H1 (k p vs H1 (fresh_back (e.trans sb.ex) np) ((e.trans sb.ex).trans e1) hp r1)
theorem run_retO (hs : S[i]? = some (.ow ds)) (k : ∀ p vs H', B p = none → Ex B H' → H' p = some (.lst vs) → DpAll K H' vs ds → P.rt (.ref p) H') : Run K B (tRet (tVar i)) S P := fun B' e D σ H sb nx rt bk ct => by
  have ex := sb.ex
  obtain ⟨Hm, A, a, sa⟩ := sb
  obtain ⟨v, h1, h2⟩ := sa.own i _ hs (by intro z; cases z)
  obtain ⟨l, vs, rfl, hA, hl, hd⟩ := h2
  have npm : Hm l = none := sa.out i l (by rw [hA]; simp)
  exact ⟨_, h1, rt _ H (k l vs H (fresh_back (e.trans a) npm) (e.trans ex) hl (DpAll.mono sa.ex hd))⟩
theorem run_retOD {kvs : List (Int × Int)} (hs : S[i]? = some (.dk kvs)) (k : ∀ p H', B p = none → Ex B H' → H' p = some (.dK (kvs.map kvV)) → P.rt (.ref p) H') : Run K B (tRet (tVar i)) S P := fun B' e D σ H sb nx rt bk ct => by
  have ex := sb.ex
  obtain ⟨Hm, A, a, sa⟩ := sb
  obtain ⟨v, h1, h2⟩ := sa.own i _ hs (by intro z; cases z)
  obtain ⟨l, rfl, hA, hl⟩ := h2
  have npm : Hm l = none := sa.out i l (by rw [hA]; simp)
  exact ⟨_, h1, rt _ H (k l H (fresh_back (e.trans a) npm) (e.trans ex) hl)⟩
/-! x += e -/
theorem run_aug {f : Int → Int → Int} {a c : Int} (hx : (gm S)[i]? = some (some (.int a))) (h : EvR K te (gm S) (.int c)) (hi : i < S.length) (k : P.nx (S.set i (.im (.int (f a c))))) : Run K B (tAug i te (ipI f)) S P := fun B' e D σ H sb nx rt bk ct => by
  obtain ⟨v, h1, h2⟩ := sb.env.2 i _ hx
  rw [h2.int] at h1
  exact ⟨_, h1, h σ H sb.env _ fun v H1 e1 r1 => ⟨a, c, rfl, r1.int, nx _ H1 _ (sb.putR e1 (d := .int (f a c)) rfl (.inl (.int _)) hi) k⟩⟩
/-! lists of one's own -/
theorem run_app (hs : S[i]? = some (.ow ds)) (h : EvR K te (gm S) d) (n : noL d = true) (hz : ds.length < 100000) (k : P.nx (S.set i (.ow (ds ++ [d])))) : Run K B (tDrop (tBM K "list" rAppend (tVar i) (tCons te tNil))) S P := fun B' e D σ H sb nx rt bk ct => by
  obtain ⟨Hm, A, a, sa⟩ := sb
  obtain ⟨v, h1, h2⟩ := sa.own i _ hs (by intro z; cases z)
  obtain ⟨l, vs, rfl, hA, hl, hd⟩ := h2
  refine ⟨_, h1, .inl ⟨rfl, _, SqL.of hl⟩, h σ H sa.env _ fun v H1 e1 r1 => ?_⟩
  have sa1 := sa.grow e1
  have r2 := Rp.mapT (sa.sqT e1) n r1
  have hl1 := e1 _ _ hl
  have hlA : l ∈ A i := by rw [hA]; simp
  have hd1 := DpAll.mono (sa.strip_of e1) hd
  refine ⟨l, vs, v, rfl, rfl, hl1, sz_lt (by rw [DpAll.length hd]; exact hz), nx _ _ _ ⟨_, A, a.trans (sa.strip_of e1), sa1.write (e' := .ow (ds ++ [d])) hlA h1 ⟨l, vs ++ [v], rfl, hA, upd_same, DpAll.append hd1 (.cons (r2.dp (noL_dict n)) .nil)⟩ (by intro z; cases z)⟩ k⟩
/-- a new list is appended -/
theorem run_appF (hs : S[i]? = some (.ow ds)) (h : EvF K te (gm S) es) (n : noLs es = true) (hz : ds.length < 100000) (k : P.nx (S.set i (.ow (ds ++ [.list es])))) : Run K B (tDrop (tBM K "list" rAppend (tVar i) (tCons te tNil))) S P := fun B' e D σ H sb nx rt bk ct => by
  obtain ⟨Hm, A, a, sa⟩ := sb
  obtain ⟨v, h1, h2⟩ := sa.own i _ hs (by intro z; cases z)
  obtain ⟨l, vs, rfl, hA, hl, hd⟩ := h2
  refine ⟨_, h1, .inl ⟨rfl, _, SqL.of hl⟩, h σ H sa.env _ fun p ws H1 np e1 hp r1 => ?_⟩
  have sa1 := sa.grow e1
  have hl1 := e1 _ _ hl
  have hlA : l ∈ A i := by rw [hA]; simp
  have hd1 := DpAll.mono (sa.strip_of e1) hd
  have r2 : Dp K (strip H1 A) (.ref p) (.list es) := .lst (sq_of (by rw [strip_out (fresh_own sa np)]; exact hp)) (DpAll.mapT (sa.sqT e1) es ws n r1)
  refine ⟨l, vs, _, rfl, rfl, hl1, sz_lt (by rw [DpAll.length hd]; exact hz), nx _ _ _ ⟨_, A, a.trans (sa.strip_of e1), sa1.write (e' := .ow (ds ++ [.list es])) hlA h1 ⟨l, vs ++ [.ref p], rfl, hA, upd_same, DpAll.append hd1 (.cons r2 .nil)⟩ (by intro z; cases z)⟩ k⟩
/-- xs[i], xs[j] = x, y -/
theorem run_swap {t1 t2 : TE} {k1 k2 : Int} {j1 j2 : Nat} (hs : S[i]? = some (.ow ds)) (ha : EvR K ta (gm S) d1) (hb : EvR K tb (gm S) d2) (n1 : noL d1 = true) (n2 : noL d2 = true) (h1 : EvR K t1 (gm S) (.int k1)) (hj1 : ixN ds.length k1 = some j1)
    (h2 : EvR K t2 (gm (S.set i (.ow (ds.set j1 d1)))) (.int k2)) (hj2 : ixN ds.length k2 = some j2) (k : P.nx (S.set i (.ow ((ds.set j1 d1).set j2 d2)))) :
    Run K B (tAsg (tTup (tCons ta (tCons tb tNil))) (gTup K 2 (gCons (gSub (tVar i) t1 rSetL) (gCons (gSub (tVar i) t2 rSetL) gNil)))) S P := fun B' e D σ H sb nx rt bk ct => by
  obtain ⟨Hm, A, a, sa⟩ := sb
  obtain ⟨v, hv, ho⟩ := sa.own i _ hs (by intro z; cases z)
  obtain ⟨l, vs, rfl, hA, hl, hd⟩ := ho
  have hiS : i < S.length := (List.getElem?_eq_some_iff.mp hs).1
  refine ha σ H sa.env _ fun x H1 e1 r1 => hb σ H1 (sa.env.mono e1) _ fun y H2 e2 r2 => ⟨by show 2 ≤ sizeLine; decide, fun {its} q hq => ?_⟩
  have e12 := e1.trans e2
  have e3 : Ex H (upd H2 q (XT its [x, y])) := e12.trans (Ex.new hq)
  refine ⟨q, [x, y], rfl, (st_of upd_same).t (K := K), rfl, x, [y], rfl, ?_⟩
  -- the first store
  generalize hH3 : upd H2 q (XT its [x, y]) = H3 at e3
  have e23 : Ex H2 H3 := by rw [← hH3]; exact Ex.new hq
  have sa3 := sa.grow e3
  have hlA : l ∈ A i := by rw [hA]; simp
  have x3 := Rp.mapT (sa.sqT e3) n1 ((r1.mono e2).mono e23)
  have y3 := Rp.mapT (sa.sqT e3) n2 (r2.mono e23)
  have hd3 := DpAll.mono (sa.strip_of e3) hd
  refine ⟨_, hv, h1 σ H3 sa3.env _ fun z H4 e4 r4 => ?_⟩
  rw [r4.int]
  have e34 := e4
  have sa4 := sa3.grow e34
  have x4 := x3.mono (sa3.strip_of e34)
  have y4 := y3.mono (sa3.strip_of e34)
  have hd4 := DpAll.mono (sa3.strip_of e34) hd3
  have hl4 : H4 l = some (.lst vs) := e34 _ _ (e3 _ _ hl)
  refine ⟨l, vs, k1, j1, rfl, rfl, hl4, by rw [DpAll.length hd]; exact hj1, ?_⟩
  have sa5 : SA K (strip H4 A) (upd H4 l (.lst (vs.set j1 x))) σ (S.set i (.ow (ds.set j1 d1))) A :=
    sa4.write (e' := .ow (ds.set j1 d1)) hlA hv ⟨l, vs.set j1 x, rfl, hA, upd_same, DpAll.set j1 hd4 (x4.dp (noL_dict n1))⟩ (by intro z; cases z)
  refine ⟨y, [], rfl, _, hv, h2 σ _ sa5.env _ fun z H6 e6 r6 => ?_⟩
  rw [r6.int]
  have sa6 := sa5.grow e6
  have hl6 : H6 l = some (.lst (vs.set j1 x)) := e6 _ _ upd_same
  refine ⟨l, vs.set j1 x, k2, j2, rfl, rfl, hl6, by rw [List.length_set, DpAll.length hd]; exact hj2, rfl, ?_⟩
  have y6 := y4.mono (sa5.strip_of e6)
  have hd6 := DpAll.mono (sa5.strip_of e6) (DpAll.set j1 hd4 (x4.dp (noL_dict n1)))
  have sa7 : SA K (strip H6 A) (upd H6 l (.lst ((vs.set j1 x).set j2 y))) σ ((S.set i (.ow (ds.set j1 d1))).set i (.ow ((ds.set j1 d1).set j2 d2))) A :=
    sa6.write (e' := .ow ((ds.set j1 d1).set j2 d2)) hlA hv ⟨l, (vs.set j1 x).set j2 y, rfl, hA, upd_same, DpAll.set j2 hd6 (y6.dp (noL_dict n2))⟩ (by intro z; cases z)
  rw [List.set_set] at sa7
  exact nx _ _ _ ⟨_, A, ((a.trans (sa.strip_of e3)).trans (sa3.strip_of e34)).trans (sa5.strip_of e6), sa7⟩ k
/-- xs[i] = x -/
theorem run_put {t1 : TE} {k1 : Int} {j1 : Nat} (hs : S[i]? = some (.ow ds)) (ha : EvR K ta (gm S) d1) (n1 : noL d1 = true) (h1 : EvR K t1 (gm S) (.int k1)) (hj1 : ixN ds.length k1 = some j1)
    (k : P.nx (S.set i (.ow (ds.set j1 d1)))) : Run K B (tAsg ta (gSub (tVar i) t1 rSetL)) S P := fun B' e D σ H sb nx rt bk ct => by
  obtain ⟨Hm, A, a, sa⟩ := sb
  obtain ⟨v, hv, ho⟩ := sa.own i _ hs (by intro z; cases z)
  obtain ⟨l, vs, rfl, hA, hl, hd⟩ := ho
  refine ha σ H sa.env _ fun x H1 e1 r1 => ⟨_, hv, h1 σ H1 (sa.env.mono e1) _ fun z H4 e4 r4 => ?_⟩
  rw [r4.int]
  have e14 := e1.trans e4
  have sa4 := sa.grow e14
  have hlA : l ∈ A i := by rw [hA]; simp
  have x4 := Rp.mapT (sa.sqT e14) n1 (r1.mono e4)
  have hd4 := DpAll.mono (sa.strip_of e14) hd
  have hl4 : H4 l = some (.lst vs) := e14 _ _ hl
  refine ⟨l, vs, k1, j1, rfl, rfl, hl4, by rw [DpAll.length hd]; exact hj1, ?_⟩
  exact nx _ _ _ ⟨_, A, a.trans (sa.strip_of e14), sa4.write (e' := .ow (ds.set j1 d1)) hlA hv ⟨l, vs.set j1 x, rfl, hA, upd_same, DpAll.set j1 hd4 (x4.dp (noL_dict n1))⟩ (by intro z; cases z)⟩ k
/-! loops -/
theorem run_while (W : Nat → SS → Prop) (m0 : Nat) (h0 : W m0 S)
    (hs : ∀ m S', W m S' → ∃ b, EvB K tt (gm S') b ∧ (b = true → Run K B t S' { P with nx := fun S'' => ∃ m', m' < m ∧ W m' S'', ct := fun S'' => ∃ m', m' < m ∧ W m' S'', bk := P.nx }) ∧ (b = false → P.nx S')) : Run K B (tWhile tt t) S P := fun B' e D σ H sb nx rt bk ct => by
  refine ⟨fun m σ H => ∃ S', SB K B' H σ S' ∧ W m S', ⟨m0, S, sb, h0⟩, ?_⟩
  rintro m σ1 H1 ⟨S', sb', w⟩
  obtain ⟨b, hb, h1, h2⟩ := hs m S' w
  refine hb σ1 H1 sb'.env _ fun H2 e2 => ?_
  have sb2 := sb'.grow e2
  cases b with
  | true =>
    refine iteT ⟨fun σ2 H3 => ∃ m' S'', SB K B' H3 σ2 S'' ∧ m' < m ∧ W m' S'', ?_, ?_⟩
    · rintro σ2 H3 ⟨m', S'', q1, q2, q3⟩
      exact ⟨m', q2, S'', q1, q3⟩
    · refine h1 rfl B' e _ σ1 H2 sb2 ?_ rt nx ?_
      · rintro σ2 H3 S'' q1 ⟨m', q2, q3⟩
        exact ⟨m', S'', q1, q2, q3⟩
      · rintro σ2 H3 S'' q1 ⟨m', q2, q3⟩
        exact ⟨m', S'', q1, q2, q3⟩
  | false => exact iteF (nx _ _ _ sb2 (h2 rfl))
/-- what a for walks, in a state -/
def EvItS (K : PySem.W.Frag) (wi : TI) (S : SS) (ds : List D) : Prop :=
  ∀ Hm H σ A, SA K Hm H σ S A → ∀ R : It → Hp → Prop, (∀ J Hm' H', Ex Hm Hm' → SA K Hm' H' σ S A → WalksD K J Hm' ds → R J H') → wi σ H R
theorem its_rng1 {ta : TA} {n : Int} (h : EvAs K ta (gm S) [.int n]) (hn : -(2 ^ 62) ≤ n ∧ n < 2 ^ 62) : EvItS K (iRng1 ta) S ((rgI 0 n.toNat).map .int) := fun Hm H σ A sa R q =>
  h σ H sa.env _ fun vs H1 e1 r => by
    obtain ⟨v, rfl, r1⟩ := rp1 r
    exact ⟨n, by rw [r1.int], hn.1, hn.2, q _ _ H1 (sa.strip_of e1) (sa.grow e1) (walks_rng _ 0 n.toNat)⟩
theorem its_rng2 {ta : TA} {lo n : Int} (h : EvAs K ta (gm S) [.int lo, .int n]) (hn : -(2 ^ 62) ≤ lo ∧ lo < 2 ^ 62 ∧ -(2 ^ 62) ≤ n ∧ n < 2 ^ 62) : EvItS K (iRng2 ta) S ((rgI lo (n - lo).toNat).map .int) := fun Hm H σ A sa R q =>
  h σ H sa.env _ fun vs H1 e1 r => by
    obtain ⟨v, w, rfl, r1, r2⟩ := rp2 r
    exact ⟨lo, n, by rw [r1.int, r2.int], hn, q _ _ H1 (sa.strip_of e1) (sa.grow e1) (walks_rng _ lo _)⟩
theorem its_tup (h : EvR K te (gm S) (.tuple ds)) (n : noLs ds = true) : EvItS K (iTup K te) S ds := fun Hm H σ A sa R q =>
  h σ H sa.env _ fun v H1 e1 r => by
    obtain ⟨a, vs, rfl, hs, hd⟩ := r.tup
    exact ⟨a, rfl, ⟨vs, hs⟩, q _ _ H1 (sa.strip_of e1) (sa.grow e1) (walks_tup (sa.sqT e1 _ _ hs) (DpAll.mapT (sa.sqT e1) _ _ n hd))⟩
theorem its_lst (hs : S[i]? = some (.im (.list ds))) : EvItS K (iList K (tVar i)) S ds := fun Hm H σ A sa R q => by
  obtain ⟨v, h1, h2⟩ := sa.own i _ hs (by intro z; cases z)
  obtain ⟨a, vs, rfl, hl, hd⟩ := h2.1.lst
  exact ⟨_, h1, a, rfl, ⟨vs, ex_l sa.ex hl⟩, q _ Hm H (Ex.refl _) sa (walks_lst hl hd)⟩
/-- over a new list -/
theorem its_new (h : EvF K te (gm S) ds) (n : noLs ds = true) : EvItS K (iList K te) S ds := fun Hm H σ A sa R q =>
  h σ H sa.env _ fun p vs H1 np e1 hp hd => by
    have hl : strip H1 A p = some (.lst vs) := by rw [strip_out (fresh_own sa np)]; exact hp
    exact ⟨p, rfl, ⟨vs, sq_of hp⟩, q _ _ H1 (sa.strip_of e1) (sa.grow e1) (walks_lst (sq_of hl) (DpAll.mapT (sa.sqT e1) _ _ n hd))⟩
def setS (S : SS) (js : List (Nat × D)) : SS := js.foldl (fun S p => S.set p.1 (.im p.2)) S
theorem JW.sa {Hm H : Hp} : ∀ {ws : List (Nat × V)} {js : List (Nat × D)} {σ : L2.St} {S : SS} {A : Nat → List Addr}, JW K Hm ws js → (∀ p ∈ js, p.1 < S.length) → SA K Hm H σ S A → ∃ A', SA K Hm H (setW σ ws) (setS S js) A'
  | _, _, _, _, A, .nil, _, sa => ⟨A, sa⟩
  | _, _, σ, S, A, .cons (a := w) (b := j) h t, hl, sa => by
    obtain ⟨h1, h2⟩ := h
    have sa1 := sa.putIm (hl j List.mem_cons_self) h2
    show ∃ A', SA K Hm H (setW (σ.set w.1 (some w.2)) _) (setS (S.set j.1 (.im j.2)) _) A'
    rw [h1]
    exact JW.sa t (fun p hp => by simpa using hl p (List.mem_cons_of_mem _ hp)) sa1
theorem run_for {α : Type} {wi : TI} {g : TG} (src : List α) (emb : α → D) (jd : α → List (Nat × D)) (hi : EvItS K wi S (src.map emb)) (hg : ∀ a ∈ src, Tg K g (emb a) (jd a)) (J : Nat → SS → Prop) (h0 : J 0 S)
    (hjl : ∀ (i : Nat) a S', src[i]? = some a → J i S' → ∀ p ∈ jd a, p.1 < S'.length)
    (hs : ∀ (i : Nat) a S', src[i]? = some a → J i S' → Run K B t (setS S' (jd a)) { P with nx := J (i + 1), ct := J (i + 1), bk := P.nx }) (hd : ∀ S', J src.length S' → P.nx S') : Run K B (tFor wi g t) S P := fun B' e D σ H sb nx rt bk ct => by
  obtain ⟨Hm, A, a, sa⟩ := sb
  refine hi Hm H σ A sa _ fun It Hm' H1 em sa1 w => ?_
  have eB : Ex B' Hm' := a.trans em
  refine ⟨fun i m σ H => m = src.length - i ∧ i ≤ src.length ∧ ∃ S', SB K Hm' H σ S' ∧ J i S', ⟨src.length, by simp, Nat.zero_le _, S, ⟨Hm', A, Ex.refl _, sa1⟩, h0⟩, ?_⟩
  rintro i m σ2 H2 ⟨rfl, hi', S', sb', j'⟩
  obtain ⟨w1, w2⟩ := w H2 sb'.ex
  by_cases hlt : i < src.length
  · have hsrc : src[i]? = some src[i] := List.getElem?_eq_getElem hlt
    obtain ⟨go, step⟩ := w1 i (emb src[i]) (by rw [List.getElem?_map, hsrc]; rfl)
    refine .inr ⟨go, fun σ H => ∃ S', SB K Hm' H σ S' ∧ J (i + 1) S', fun σ H p => ⟨src.length - (i + 1), by omega, rfl, hlt, p⟩, fun x H3 y => ?_⟩
    obtain ⟨e3, rx⟩ := step x H3 y
    obtain ⟨ws, jw, gq⟩ := hg _ (List.getElem_mem hlt) x Hm' rx
    refine gq H3 (sb'.ex.trans e3) _ _ ?_
    have sb3 := sb'.grow e3
    obtain ⟨Hm3, A3, a3, sa3⟩ := sb3
    obtain ⟨A4, sa4⟩ := (jw.mono a3).sa (hjl i _ S' hsrc j') sa3
    refine hs i _ S' hsrc j' Hm' (e.trans eB) _ _ H3 ⟨Hm3, A4, a3, sa4⟩ ?_ rt ?_ ?_
    · intro σ5 H5 S5 q1 q2
      exact ⟨S5, q1, q2⟩
    · intro σ5 H5 S5 q1 q2
      exact nx _ _ _ (q1.mono eB) q2
    · intro σ5 H5 S5 q1 q2
      exact ⟨S5, q1, q2⟩
  · have hii : i = src.length := by omega
    subst hii
    rw [List.length_map] at w2
    exact .inl ⟨w2, nx _ _ _ (sb'.mono eB) (hd S' j')⟩
/-- the loop as a fold -/
theorem run_for_fold {α β : Type} {wi : TI} {g : TG} (src : List α) (emb : α → D) (jd : α → List (Nat × D)) (hi : EvItS K wi S (src.map emb)) (hg : ∀ a ∈ src, Tg K g (emb a) (jd a)) (J : β → SS → Prop) (f : β → α → β) (b0 : β) (h0 : J b0 S)
    (hjl : ∀ b a S', a ∈ src → J b S' → ∀ p ∈ jd a, p.1 < S'.length)
    (hs : ∀ (i : Nat) b a S', src[i]? = some a → b = (src.take i).foldl f b0 → J b S' → Run K B t (setS S' (jd a)) { P with nx := J (f b a), ct := J (f b a), bk := P.nx }) (hd : ∀ S', J (src.foldl f b0) S' → P.nx S') : Run K B (tFor wi g t) S P := by
  refine run_for src emb jd hi hg (fun i S' => J ((src.take i).foldl f b0) S') h0 (fun i a S' q j => hjl _ a S' (List.mem_of_getElem? q) j) (fun i a S' q j => ?_) (fun S' j => hd S' (by rw [List.take_length] at j; exact j))
  have := hs i _ a S' q rfl j
  have e : (src.take (i + 1)).foldl f b0 = f ((src.take i).foldl f b0) a := by
    rw [List.take_add_one, q, List.foldl_append]
    rfl
  rw [e]
  exact this
end
/-! ### the post is weakened -/
theorem Run.imp {K : PySem.W.Frag} {B : Hp} {t : TS} {S : SS} {P P' : Post} (h : Run K B t S P) (n : ∀ S', P.nx S' → P'.nx S') (r : ∀ v H, P.rt v H → P'.rt v H) (b : ∀ S', P.bk S' → P'.bk S') (c : ∀ S', P.ct S' → P'.ct S') : Run K B t S P' := fun B' e D σ H sb nx rt bk ct =>
  h B' e D σ H sb (fun σ' H' S' q z => nx σ' H' S' q (n S' z)) (fun v H' z => rt v H' (r v H' z)) (fun σ' H' S' q z => bk σ' H' S' q (b S' z)) (fun σ' H' S' q z => ct σ' H' S' q (c S' z))
end KW

set_option Elab.async false
set_option linter.all false
set_option maxRecDepth 100000
set_option maxHeartbeats 4000000
/-! promises of defs by data; dicts of ints -/
namespace KW
open PySem PySem.Spec PyProof.Rows L2 Evl

/-- hands back data -/
def spR (K : PySem.W.Frag) (F : List D → D → Prop) : Sp := fun vs H Q _ => ∃ ds d, RpAll K H vs ds ∧ F ds d ∧ ∀ v H', Ex H H' → Rp K H' v d → Q v H'
/-- hands back a new list -/
def spF (K : PySem.W.Frag) (F : List D → List D → Prop) : Sp := fun vs H Q _ => ∃ ds es, RpAll K H vs ds ∧ F ds es ∧ ∀ p ws H', H p = none → Ex H H' → H' p = some (.lst ws) → DpAll K H' ws es → Q (.ref p) H'
/-- hands back a new dict -/
def spD (K : PySem.W.Frag) (F : List D → List (Int × Int) → Prop) : Sp := fun vs H Q _ => ∃ ds es, RpAll K H vs ds ∧ F ds es ∧ ∀ p H', H p = none → Ex H H' → H' p = some (.dK (es.map kvV)) → Q (.ref p) H'
section
variable {K : PySem.W.Frag} {Γ : G} {ta : TA} {ds es : List D} {d : D} {E : XK}
theorem ev_call {F : List D → D → Prop} (h : EvAs K ta Γ ds) (hF : F ds d) : EvR K (tCall (spR K F) [] E ta) Γ d := fun σ H Ev Q q => h σ H Ev _ fun vs H1 e1 r1 => by
  show spR K F (vs ++ []) H1 Q E
  rw [List.append_nil]
  exact ⟨ds, d, r1, hF, fun v H' e2 r2 => q v H' (e1.trans e2) r2⟩
theorem ef_call {F : List D → List D → Prop} (h : EvAs K ta Γ ds) (hF : F ds es) : EvF K (tCall (spF K F) [] E ta) Γ es := fun σ H Ev Q q => h σ H Ev _ fun vs H1 e1 r1 => by
  show spF K F (vs ++ []) H1 Q E
  rw [List.append_nil]
  exact ⟨ds, es, r1, hF, fun p ws H' n e2 hp r2 => q p ws H' (fresh_back e1 n) (e1.trans e2) hp r2⟩
theorem ed_call {F : List D → List (Int × Int) → Prop} {kvs : List (Int × Int)} (h : EvAs K ta Γ ds) (hF : F ds kvs) : EvD K (tCall (spD K F) [] E ta) Γ kvs := fun σ H Ev Q q => h σ H Ev _ fun vs H1 e1 r1 => by
  show spD K F (vs ++ []) H1 Q E
  rw [List.append_nil]
  exact ⟨ds, kvs, r1, hF, fun p H' n e2 hp => q p H' (fresh_back e1 n) (e1.trans e2) hp⟩
end

/-! ### the start of a def -/
def initS (n : Nat) (ds : List D) : SS := ds.map Sl.im ++ List.replicate (n - ds.length) Sl.no
theorem start_sb {K : PySem.W.Frag} {H : Hp} {N : List Str} {vs : List V} {ds : List D} (r : RpAll K H vs ds) : SB K H H (L2.start N vs) (initS N.length ds) := by
  have hl := Paired.length r
  refine ⟨H, fun _ => [], Ex.refl H, ⟨Ex.refl H, ?_, fun i e q n => ?_, fun _ _ => rfl, fun _ _ _ _ z => (by cases z), fun _ _ z => (by cases z)⟩⟩
  · simp [initS, L2.start, hl]
  · unfold initS at q
    by_cases hi : i < ds.length
    · rw [List.getElem?_append_left (by simpa using hi), List.getElem?_map, List.getElem?_eq_getElem hi] at q
      cases q
      have key : ∀ {vs : List V} {ds : List D} {j : Nat} {d : D}, RpAll K H vs ds → ds[j]? = some d → ∃ v, vs[j]? = some v ∧ Rp K H v d := by
        intro vs ds j d h
        induction h generalizing j with
        | nil => intro e; simp at e
        | cons a b ih =>
          intro e
          cases j with
          | zero => simp at e; subst e; exact ⟨_, rfl, a⟩
          | succ j =>
            obtain ⟨v, h1, h2⟩ := ih (by simpa using e)
            exact ⟨v, by simpa using h1, h2⟩
      obtain ⟨v, h1, h2⟩ := key r (List.getElem?_eq_getElem hi)
      refine ⟨v, ?_, h2, rfl⟩
      unfold L2.start
      rw [List.getElem?_append_left (by simpa [hl] using hi), List.getElem?_map, h1]
      rfl
    · rw [List.getElem?_append_right (by simpa using hi)] at q
      have := List.mem_of_getElem? q
      exact absurd (List.mem_replicate.mp this).2 n
section
variable {P : Program} {w : World} {K : PySem.W.Frag} {mg : Str → Option Value} {base : Heap} {x qual : Str} {st : Stmt} {f : Addr} {fd : FuncData} {N ps : List Str} {k : Nat}
abbrev rtR (K : PySem.W.Frag) (B : Hp) (d : D) : VK := fun v H' => Ex B H' ∧ Rp K H' v d
abbrev rtF (K : PySem.W.Frag) (B : Hp) (ds : List D) : VK := fun v H' => ∃ p vs, v = .ref p ∧ B p = none ∧ Ex B H' ∧ H' p = some (.lst vs) ∧ DpAll K H' vs ds
abbrev rtD (K : PySem.W.Frag) (B : Hp) (kvs : List (Int × Int)) : VK := fun v H' => ∃ p, v = .ref p ∧ B p = none ∧ Ex B H' ∧ H' p = some (.dK (kvs.map kvV))
/-- the body with its term, and what it does by data -/
theorem def_R (F : Fun K x qual st f fd) (S : FnScope N ps (defScope st)) (Fr : List D → D → Prop) (hl : ∀ ds d, Fr ds d → ds.length = ps.length)
    (hb : ∀ (cdv : Value) (A : Around) (outer : List Env) (s : Shared) (H : Hp) (E : XK), Room k (A.deeper (envOfC qual (defScope st) s.heap.objs.size f cdv)) →
      ∃ t, PSs (cxOf CX0 P w K mg base N qual (defScope st) f cdv A outer s H E).nox (defBody st) t ∧ ∀ ds d, Fr ds d → ∀ B, Run K B t (initS N.length ds) { nx := fun _ => False, rt := rtR K B d }) : FnOk P w K mg base CX0 (k + 1) f fd ps (spR K Fr) := by
  refine F.ok S (fun vs H Q E h => ?_) (fun cdv A outer s H vs Q E hr h => ?_)
  · obtain ⟨ds, d, r, q, _⟩ := h
    rw [Paired.length r]
    exact hl ds d q
  · obtain ⟨ds, d, r, q, z⟩ := h
    obtain ⟨t, ht, hrun⟩ := hb cdv A outer s H E hr
    exact ⟨t, ht, hrun ds d q H H (Ex.refl H) _ _ H (start_sb r) (fun _ _ _ _ z => z.elim) (fun v H' y => z v H' y.1 y.2) (fun _ _ _ _ z => z.elim) (fun _ _ _ _ z => z.elim)⟩
theorem def_F (F : Fun K x qual st f fd) (S : FnScope N ps (defScope st)) (Fr : List D → List D → Prop) (hl : ∀ ds d, Fr ds d → ds.length = ps.length)
    (hb : ∀ (cdv : Value) (A : Around) (outer : List Env) (s : Shared) (H : Hp) (E : XK), Room k (A.deeper (envOfC qual (defScope st) s.heap.objs.size f cdv)) →
      ∃ t, PSs (cxOf CX0 P w K mg base N qual (defScope st) f cdv A outer s H E).nox (defBody st) t ∧ ∀ ds d, Fr ds d → ∀ B, Run K B t (initS N.length ds) { nx := fun _ => False, rt := rtF K B d }) : FnOk P w K mg base CX0 (k + 1) f fd ps (spF K Fr) := by
  refine F.ok S (fun vs H Q E h => ?_) (fun cdv A outer s H vs Q E hr h => ?_)
  · obtain ⟨ds, d, r, q, _⟩ := h
    rw [Paired.length r]
    exact hl ds d q
  · obtain ⟨ds, d, r, q, z⟩ := h
    obtain ⟨t, ht, hrun⟩ := hb cdv A outer s H E hr
    exact ⟨t, ht, hrun ds d q H H (Ex.refl H) _ _ H (start_sb r) (fun _ _ _ _ z => z.elim) (fun v H' ⟨p, vs', e, y1, y2, y3, y4⟩ => by subst e; exact z p vs' H' y1 y2 y3 y4) (fun _ _ _ _ z => z.elim) (fun _ _ _ _ z => z.elim)⟩
theorem def_D (F : Fun K x qual st f fd) (S : FnScope N ps (defScope st)) (Fr : List D → List (Int × Int) → Prop) (hl : ∀ ds d, Fr ds d → ds.length = ps.length)
    (hb : ∀ (cdv : Value) (A : Around) (outer : List Env) (s : Shared) (H : Hp) (E : XK), Room k (A.deeper (envOfC qual (defScope st) s.heap.objs.size f cdv)) →
      ∃ t, PSs (cxOf CX0 P w K mg base N qual (defScope st) f cdv A outer s H E).nox (defBody st) t ∧ ∀ ds d, Fr ds d → ∀ B, Run K B t (initS N.length ds) { nx := fun _ => False, rt := rtD K B d }) : FnOk P w K mg base CX0 (k + 1) f fd ps (spD K Fr) := by
  refine F.ok S (fun vs H Q E h => ?_) (fun cdv A outer s H vs Q E hr h => ?_)
  · obtain ⟨ds, d, r, q, _⟩ := h
    rw [Paired.length r]
    exact hl ds d q
  · obtain ⟨ds, d, r, q, z⟩ := h
    obtain ⟨t, ht, hrun⟩ := hb cdv A outer s H E hr
    exact ⟨t, ht, hrun ds d q H H (Ex.refl H) _ _ H (start_sb r) (fun _ _ _ _ z => z.elim) (fun v H' ⟨p, e, y1, y2, y3⟩ => by subst e; exact z p H' y1 y2 y3) (fun _ _ _ _ z => z.elim) (fun _ _ _ _ z => z.elim)⟩
end
/-! returns in the forms that the defs want -/
section
variable {K : PySem.W.Frag} {B : Hp} {S : SS} {te : TE} {d : D} {ds : List D} {i : Nat} {kvs : List (Int × Int)} {nx bk ct : SS → Prop}
theorem ret_R (h : EvR K te (gm S) d) : Run K B (tRet te) S ⟨nx, rtR K B d, bk, ct⟩ := run_retR h fun v H' e r => ⟨e, r⟩
theorem ret_F (h : EvF K te (gm S) ds) : Run K B (tRet te) S ⟨nx, rtF K B ds, bk, ct⟩ := run_retF h fun p vs H' n e hp hd => ⟨p, vs, rfl, n, e, hp, hd⟩
theorem ret_O (h : S[i]? = some (.ow ds)) : Run K B (tRet (tVar i)) S ⟨nx, rtF K B ds, bk, ct⟩ := run_retO h fun p vs H' n e hp hd => ⟨p, vs, rfl, n, e, hp, hd⟩
theorem ret_D (h : EvD K te (gm S) kvs) : Run K B (tRet te) S ⟨nx, rtD K B kvs, bk, ct⟩ := fun B' e D σ H sb nx rt bk ct =>
  h σ H sb.env _ fun p H1 np e1 hp => rt _ H1 ⟨p, rfl, fresh_back (e.trans sb.ex) np, (e.trans sb.ex).trans e1, hp⟩
theorem ret_OD (h : S[i]? = some (.dk kvs)) : Run K B (tRet (tVar i)) S ⟨nx, rtD K B kvs, bk, ct⟩ := run_retOD h fun p H' n e hp => ⟨p, rfl, n, e, hp⟩
end

/-! ### dicts of ints by ints -/
def lookI (kvs : List (Int × Int)) (k : Int) : Option Int := (kvs.find? fun p => decide (p.1 = k)).map (·.2)
def putI (kvs : List (Int × Int)) (k v : Int) : List (Int × Int) := if (kvs.any fun p => decide (p.1 = k)) = true then kvs.map (fun p => if p.1 = k then (p.1, v) else p) else kvs ++ [(k, v)]
theorem dec_inl (a b : Int) : decide ((Sum.inl a : Key) = Sum.inl b) = decide (a = b) := by
  by_cases h : a = b
  · subst h; simp
  · rw [decide_eq_false h, decide_eq_false fun z => h (Sum.inl.inj z)]
theorem valV_kv (k : Int) : ∀ kvs : List (Int × Int), valV (kvs.map kvV) (Sum.inl k) = (lookI kvs k).map V.int
  | [] => rfl
  | p :: r => by
    have ih := valV_kv k r
    by_cases e : p.1 = k
    · rw [List.map_cons, valV_pos (p := kvV p) (by show Sum.inl p.1 = _; rw [e])]
      simp [lookI, List.find?_cons, e, kvV]
    · rw [List.map_cons, valV_neg (p := kvV p) (by show ¬ Sum.inl p.1 = _; exact fun z => e (Sum.inl.inj z)), ih]
      simp [lookI, List.find?_cons, e]
theorem any_kv (k : Int) (kvs : List (Int × Int)) : ((kvs.map kvV).any fun kv => decide (kv.1 = Sum.inl k)) = (kvs.any fun p => decide (p.1 = k)) := by
  rw [List.any_map]
  congr 1
  funext p
  exact dec_inl p.1 k
theorem putK_kv (k v : Int) (kvs : List (Int × Int)) : putK (kvs.map kvV) (Sum.inl k) (V.int v) = (putI kvs k v).map kvV := by
  unfold putK putI
  rw [any_kv]
  by_cases h : (kvs.any fun p => decide (p.1 = k)) = true
  · rw [if_pos h, if_pos h, List.map_map, List.map_map]
    apply List.map_congr_left
    intro p _
    by_cases e : p.1 = k
    · simp [kvV, e]
    · have : ¬ (Sum.inl p.1 : Key) = Sum.inl k := fun z => e (Sum.inl.inj z)
      simp [kvV, e]
  · rw [if_neg h, if_neg h, List.map_append]
    rfl
section
variable {K : PySem.W.Frag} {Γ : G} {td ty tx tv : TE} {kvs : List (Int × Int)} {k x : Int}
theorem ed_new : EvD K tDNewK Γ [] := fun σ H E Q q p hp => q p _ hp (Ex.new hp) upd_same
theorem ev_dget (h : EvR K td Γ (dI kvs)) (hk : EvR K ty Γ (.int k)) (hx : lookI kvs k = some x) : EvR K (tDGet td ty) Γ (.int x) := fun σ H E Q q =>
  h σ H E _ fun v H1 e1 r1 => hk σ H1 (E.mono e1) _ fun y H2 e2 r2 => by
    obtain ⟨a, rfl, ha⟩ := (r1.mono e2).dict
    rw [r2.int]
    refine ⟨a, .int x, rfl, ?_, q _ H2 (e1.trans e2) (.inl (.int x))⟩
    have := DGet.k (k := Sum.inl k) ha
    rw [valV_kv, hx] at this
    exact this
theorem ev_dget2 (h : EvR K td Γ (dI kvs)) (hk : EvR K ty Γ (.int k)) (hx : EvR K tx Γ (.int x)) : EvR K (tDGet2 td ty tx) Γ (.int ((lookI kvs k).getD x)) := fun σ H E Q q =>
  h σ H E _ fun v H1 e1 r1 => by
    obtain ⟨a, rfl, ha⟩ := r1.dict
    refine ⟨a, rfl, .inl ⟨_, .inl ha⟩, hk σ H1 (E.mono e1) _ fun y H2 e2 r2 => hx σ H2 (E.mono (e1.trans e2)) _ fun z H3 e3 r3 => ?_⟩
    rw [r2.int, r3.int]
    have := DGet.k (k := Sum.inl k) (e3 _ _ (e2 _ _ ha))
    rw [valV_kv] at this
    refine ⟨_, this, q _ H3 ((e1.trans e2).trans e3) ?_⟩
    cases lookI kvs k with
    | none => exact .inl (.int _)
    | some y => exact .inl (.int _)
end
section
variable {K : PySem.W.Frag} {B : Hp} {S : SS} {P : Post} {ty tv : TE} {kvs : List (Int × Int)} {k x : Int} {i : Nat}
theorem run_dput (hs : S[i]? = some (.dk kvs)) (hx : EvR K tv (gm S) (.int x)) (hk : EvR K ty (gm S) (.int k)) (hz : kvs.length < 100000) (q : P.nx (S.set i (.dk (putI kvs k x)))) : Run K B (sDPut (tVar i) ty tv) S P := fun B' e D σ H sb nx rt bk ct => by
  obtain ⟨Hm, A, a, sa⟩ := sb
  obtain ⟨v, hv, ho⟩ := sa.own i _ hs (by intro z; cases z)
  obtain ⟨l, rfl, hA, hl⟩ := ho
  refine hx σ H sa.env _ fun xv H1 e1 r1 => ⟨_, hv, hk σ H1 (sa.env.mono e1) _ fun y H2 e2 r2 => ?_⟩
  rw [r1.int, r2.int]
  have e12 := e1.trans e2
  have hl2 := e12 _ _ hl
  refine ⟨l, _, rfl, DPut.k (k := Sum.inl k) hl2 (by rw [List.length_map]; exact sz_lt hz), ?_⟩
  rw [putK_kv]
  have sa2 := sa.grow e12
  exact nx _ _ _ ⟨_, A, a.trans (sa.strip_of e12), sa2.write (e' := .dk (putI kvs k x)) (by rw [hA]; simp) hv ⟨l, rfl, hA, upd_same⟩ (by intro z; cases z)⟩ q
end
/-- the dict of a comprehension -/
def Cd (K : PySem.W.Frag) (H0 : Hp) (D : Addr) (kvs : List (Int × Int)) (H : Hp) : Prop := Ex H0 (del H D) ∧ H D = some (.dK (kvs.map kvV))
theorem putI_length (kvs : List (Int × Int)) (k v : Int) : (putI kvs k v).length ≤ kvs.length + 1 := by
  unfold putI
  split <;> simp
theorem foldl_putI_length {α : Type} (fk fv : α → Int) : ∀ (l : List α) (acc : List (Int × Int)), (l.foldl (fun kvs a => putI kvs (fk a) (fv a)) acc).length ≤ acc.length + l.length
  | [], acc => by simp
  | a :: l, acc => by
    have h1 := foldl_putI_length fk fv l (putI acc (fk a) (fv a))
    have h2 := putI_length acc (fk a) (fv a)
    simp only [List.foldl_cons, List.length_cons]
    omega
section
variable {K : PySem.W.Frag} {Γ : G} {wi : TI} {g : TG} {tk tv : TE} {vs : List Nat} {α : Type}
theorem ed_dc (src : List α) (emb : α → D) (jd : α → List (Nat × D)) (fk fv : α → Int) (hi : EvIt K wi Γ (src.map emb)) (hg : ∀ a ∈ src, Tg K g (emb a) (jd a)) (hj : ∀ a ∈ src, ∀ p ∈ jd a, p.1 ∈ vs)
    (hk : ∀ a ∈ src, EvR K tk (setJ (wipeG Γ vs) (jd a)) (.int (fk a))) (hv : ∀ a ∈ src, EvR K tv (setJ (wipeG Γ vs) (jd a)) (.int (fv a))) (hl : src.length ≤ 90000) :
    EvD K (tDc wi g tYes tk tv vs) Γ (src.foldl (fun kvs a => putI kvs (fk a) (fv a)) []) := fun σ H E Q q =>
  hi σ H E _ fun J H1 e1 w => fun Dl hD => by
    refine ⟨fun i m H' => m = src.length - i ∧ i ≤ src.length ∧ Cd K H1 Dl ((src.take i).foldl (fun kvs a => putI kvs (fk a) (fv a)) []) H', ⟨src.length, by simp, Nat.zero_le _, del_of hD (Ex.new hD), upd_same⟩, ?_⟩
    rintro i m H' ⟨rfl, hi', cw⟩
    have ex : Ex H1 H' := cw.1.trans del_ex
    obtain ⟨w1, w2⟩ := w H' ex
    by_cases hlt : i < src.length
    · have hsrc : src[i]? = some src[i] := List.getElem?_eq_getElem hlt
      have hmem : src[i] ∈ src := List.getElem_mem hlt
      obtain ⟨go, step⟩ := w1 i (emb src[i]) (by rw [List.getElem?_map, hsrc]; rfl)
      refine .inr ⟨go, fun H'' => Cd K H1 Dl ((src.take (i + 1)).foldl (fun kvs a => putI kvs (fk a) (fv a)) []) H'', fun H'' p => ⟨src.length - (i + 1), by omega, rfl, hlt, p⟩, fun x H2 y => ?_⟩
      obtain ⟨e2, rx⟩ := step x H2 y
      obtain ⟨ws, jw, gq⟩ := hg _ hmem x H1 rx
      refine gq H2 (ex.trans e2) _ _ ⟨wipe_eq (by rw [setW_length, wipe_length]) fun k hk => ?_, ?_⟩
      · rw [setW_out ws _ fun p hp (z : p.1 = k) => hk (by rw [← z]; exact jw.keys (hj _ hmem) p hp), wipe_get hk]
      · have E1 : EnvOk K H1 (setW (wipe σ vs) ws) (setJ (wipeG Γ vs) (jd src[i])) := jw.env ((E.mono e1).wipe vs)
        have E2 := E1.mono (ex.trans e2)
        refine iteT (B := Cd K H1 Dl ((src.take (i + 1)).foldl (fun kvs a => putI kvs (fk a) (fv a)) []) H2) (hk _ hmem _ H2 E2 _ fun y H4 e4 r4 => hv _ hmem _ H4 (E2.mono e4) _ fun z H5 e5 r5 => ?_)
        have cw5 : H5 Dl = _ := e5 _ _ (e4 _ _ (e2 _ _ cw.2))
        have b := foldl_putI_length fk fv (src.take i) []
        rw [List.length_take, List.length_nil] at b
        refine ⟨_, Sum.inl (fk src[i]), r4.int, cw5, by rw [List.length_map]; exact sz_lt (by omega), ?_⟩
        rw [r5.int, putK_kv]
        have tk : (src.take (i + 1)).foldl (fun kvs a => putI kvs (fk a) (fv a)) [] = putI ((src.take i).foldl (fun kvs a => putI kvs (fk a) (fv a)) []) (fk src[i]) (fv src[i]) := by
          rw [List.take_add_one, hsrc, List.foldl_append]
          rfl
        rw [tk]
        exact ⟨cw.1.trans (del_upd ((e2.trans e4).trans e5)), upd_same⟩
    · have hii : i = src.length := by omega
      subst hii
      rw [List.length_map] at w2
      rw [List.take_length] at cw
      exact .inl ⟨w2, q Dl H' (fresh_back e1 hD) (e1.trans ex) cw.2⟩
end
end KW

set_option Elab.async false
set_option linter.all false
set_option maxRecDepth 100000
set_option maxHeartbeats 4000000
/-! rules by values that the layer lacks -/
namespace KW
open PySem PySem.Spec PyProof.Rows L2 Evl

/-! ### one rule for + of ints, tuples, lists; one for an item; one for a slice -/
def rAddX (K : PySem.W.Frag) : R2 := fun x y H Q => rI0 (fun i j => .int (i + j)) x y H Q ∨ (rCatA K x y H Q ∨ rCat x y H Q)
theorem op_addX {X : Cx} : OpR X (binaryOp .Add) (rAddX X.K) := op_add.or (op_catA.or op_cat)
def rSlX (K : PySem.W.Frag) : V → Option Int → Option Int → Hp → VK → Prop := fun x lo hi H Q => rSlL K x lo hi H Q ∨ rSlA K x lo hi H Q
theorem sl_X {X : Cx} : SlR X (rSlX X.K) := sl_list.or sl_tupA
def rIxX (K : PySem.W.Frag) : R2 := fun x y H Q => rIxL K x y H Q ∨ rIxT K x y H Q
theorem ix_X {X : Cx} : IxR X (rIxX X.K) := ix_list.or ix_tup
/-- by values -/
def RvR (K : PySem.W.Frag) (r : R2) (d e f : D) : Prop := ∀ x y H, Rp K H x d → Rp K H y e → ∀ Q : VK, (∀ v H', Ex H H' → Rp K H' v f → Q v H') → r x y H Q
def RvF (K : PySem.W.Frag) (r : R2) (d e : D) (ds : List D) : Prop := ∀ x y H, Rp K H x d → Rp K H y e → ∀ Q : VK, (∀ p vs H', H p = none → Ex H H' → H' p = some (.lst vs) → DpAll K H' vs ds → Q (.ref p) H') → r x y H Q
section
variable {K : PySem.W.Frag} {Γ : G} {ta tb te : TE} {d e f : D} {ds es : List D} {i j : Int} {r r' : R2}
theorem RvR.l (h : RvR K r d e f) : RvR K (fun x y H Q => r x y H Q ∨ r' x y H Q) d e f := fun x y H a b Q q => .inl (h x y H a b Q q)
theorem RvR.rr (h : RvR K r' d e f) : RvR K (fun x y H Q => r x y H Q ∨ r' x y H Q) d e f := fun x y H a b Q q => .inr (h x y H a b Q q)
theorem RvF.l (h : RvF K r d e ds) : RvF K (fun x y H Q => r x y H Q ∨ r' x y H Q) d e ds := fun x y H a b Q q => .inl (h x y H a b Q q)
theorem RvF.rr (h : RvF K r' d e ds) : RvF K (fun x y H Q => r x y H Q ∨ r' x y H Q) d e ds := fun x y H a b Q q => .inr (h x y H a b Q q)
theorem rv_addI : RvR K (rI0 fun i j => .int (i + j)) (.int i) (.int j) (.int (i + j)) := fun x y H r1 r2 Q q => ⟨i, j, r1.int, r2.int, q _ H (Ex.refl H) (.inl (.int _))⟩
theorem rv_mulI (h : CMul i j) : RvR K (rI CMul fun i j => .int (i * j)) (.int i) (.int j) (.int (i * j)) := fun x y H r1 r2 Q q => ⟨i, j, r1.int, r2.int, h, q _ H (Ex.refl H) (.inl (.int _))⟩
theorem rv_catT (hl : ds.length + es.length ≤ 100000) : RvR K (rCatA K) (.tuple ds) (.tuple es) (.tuple (ds ++ es)) := fun x y H r1 r2 Q q => by
  obtain ⟨a, vs, rfl, hs, hd⟩ := r1.tup
  obtain ⟨b, ws, rfl, ht, he⟩ := r2.tup
  have l1 := DpAll.length hd
  have l2 := DpAll.length he
  refine ⟨a, b, vs, ws, rfl, rfl, hs, ht, sz_of (by omega), fun z => ?_, fun _ z => ?_, fun _ _ => fun p hp => ?_⟩
  · have z' : ds = [] := List.length_eq_zero_iff.mp (by rw [← l1, z]; rfl)
    rw [z'] at q
    exact q _ H (Ex.refl H) (.inl (.tup ht he))
  · have z' : es = [] := List.length_eq_zero_iff.mp (by rw [← l2, z]; rfl)
    rw [z', List.append_nil] at q
    exact q _ H (Ex.refl H) (.inl (.tup hs hd))
  · exact q _ _ (Ex.new hp) (.inl (.tup (st_of upd_same) (DpAll.mono (Ex.new hp) (DpAll.append hd he))))
theorem ev_addX_I (ha : EvR K ta Γ (.int i)) (hb : EvR K tb Γ (.int j)) : EvR K (tOp (rAddX K) ta tb) Γ (.int (i + j)) := ev_op ha hb (RvR.l rv_addI)
theorem ev_addX_T (ha : EvR K ta Γ (.tuple ds)) (hb : EvR K tb Γ (.tuple es)) (hl : ds.length + es.length ≤ 100000) : EvR K (tOp (rAddX K) ta tb) Γ (.tuple (ds ++ es)) := ev_op ha hb (RvR.rr (RvR.l (rv_catT hl)))
/-- two new lists together -/
theorem ef_addX_L (ha : EvF K ta Γ ds) (hb : EvF K tb Γ es) (hl : ds.length + es.length ≤ 100000) : EvF K (tOp (rAddX K) ta tb) Γ (ds ++ es) := fun σ H E Q q =>
  ha σ H E _ fun p vs H1 np e1 hp hd => hb σ H1 (E.mono e1) _ fun p2 ws H2 np2 e2 hp2 he => .inr (.inr ⟨p, p2, vs, ws, rfl, rfl, e2 _ _ hp, hp2, sz_of (by rw [DpAll.length hd, DpAll.length he]; omega), fun p3 hp3 =>
    q p3 _ _ (fresh_back (e1.trans e2) hp3) ((e1.trans e2).trans (Ex.new hp3)) upd_same (DpAll.mono (Ex.new hp3) (DpAll.append (DpAll.mono e2 hd) he))⟩)
/-- an elder list of the def's own and a new one -/
theorem ev_ixX_T (ha : EvR K ta Γ (.tuple ds)) (hb : EvR K tb Γ (.int i)) (h : atI ds i = some d) : EvR K (tOp (rIxX K) ta tb) Γ d :=
  ev_op ha hb fun x y H r1 r2 Q q => by
    obtain ⟨a, vs, rfl, hs, hd⟩ := r1.tup
    obtain ⟨v, h1, h2⟩ := DpAll.atI hd h
    exact .inr ⟨a, vs, i, v, rfl, r2.int, hs, h1, q v H (Ex.refl H) (.inl h2)⟩
theorem ev_ixX_L (ha : EvR K ta Γ (.list ds)) (hb : EvR K tb Γ (.int i)) (h : atI ds i = some d) : EvR K (tOp (rIxX K) ta tb) Γ d :=
  ev_op ha hb fun x y H r1 r2 Q q => by
    obtain ⟨a, vs, rfl, hs, hd⟩ := r1.lst
    obtain ⟨v, h1, h2⟩ := DpAll.atI hd h
    exact .inl ⟨a, vs, i, v, rfl, r2.int, hs, h1, q v H (Ex.refl H) (.inl h2)⟩
theorem ev_slX_T {tl th : TO} {lo hi : Option Int} (ha : EvR K te Γ (.tuple ds)) (hl : EvP K tl Γ lo) (hh : EvP K th Γ hi) : EvR K (tSl (rSlX K) te tl th) Γ (.tuple (cutD ds lo hi)) := fun σ H E Q q =>
  ha σ H E _ fun v H1 e1 r1 => hl σ H1 (E.mono e1) _ fun H2 e2 => hh σ H2 (E.mono (e1.trans e2)) _ fun H3 e3 => by
    obtain ⟨a, vs, rfl, hs, hd⟩ := (r1.mono (e2.trans e3)).tup
    have e := (e1.trans e2).trans e3
    refine .inr ⟨a, vs, rfl, hs, fun z => ?_, fun _ => fun p hp => ?_⟩
    · have l1 := DpAll.length hd
      have : cutD ds lo hi = ds := by
        unfold cutD
        rw [← l1, z.1, z.2, List.drop_zero, Nat.sub_zero, l1]
        exact List.take_length
      rw [this] at q
      exact q _ H3 e (.inl (.tup hs hd))
    · exact q _ _ (e.trans (Ex.new hp)) (.inl (.tup (st_of upd_same) (DpAll.mono (Ex.new hp) (DpAll.cut lo hi hd))))
theorem ef_slX_L {tl th : TO} {lo hi : Option Int} (ha : EvR K te Γ (.list ds)) (hl : EvP K tl Γ lo) (hh : EvP K th Γ hi) : EvF K (tSl (rSlX K) te tl th) Γ (cutD ds lo hi) := fun σ H E Q q =>
  ha σ H E _ fun v H1 e1 r1 => hl σ H1 (E.mono e1) _ fun H2 e2 => hh σ H2 (E.mono (e1.trans e2)) _ fun H3 e3 => by
    obtain ⟨a, vs, rfl, hs, hd⟩ := (r1.mono (e2.trans e3)).lst
    have e := (e1.trans e2).trans e3
    exact .inl ⟨a, vs, rfl, hs, fun p hp => q p _ _ (fresh_back e hp) (e.trans (Ex.new hp)) upd_same (DpAll.mono (Ex.new hp) (DpAll.cut lo hi hd))⟩
end

/-! ### x in c, x not in c: data of any depth in a list or a tuple -/
def rInA (K : PySem.W.Frag) (neg : Bool) : R2 := fun x y H Q => ∃ d ds, Dp K H x d ∧ (Dp K H y (.list ds) ∨ Dp K H y (.tuple ds)) ∧ SeqAt.shaped d = true ∧ SeqAt.shaped (.list ds) = true ∧ Q (.bl (if neg then !ds.any fun z => PyData.eqv z d else ds.any fun z => PyData.eqv z d)) H
section
variable {X : Cx}
theorem op_inA (hu : X.A.units + 65 < cLine) : OpR X (compareOp .In) (rInA X.K false) := by
  intro pins s σ H x y v u Q I rx ry h
  obtain ⟨d, ds, hd, he, sd, se, q⟩ := h
  obtain ⟨as, r1⟩ := Dp.reads I d x v hd rx
  have hc : PyData.canLayAll0 ds = true := SeqAt.canLay_of_shaped se
  rcases he with he | he
  · obtain ⟨bs, r2⟩ := Dp.reads I (.list ds) y u he ry
    exact SeqAt.in_list_reads r2 r1 hc (SeqAt.canLay_of_shaped sd) (room_in_shaped sd hu) ⟨.bl _, H, I, rfl, q⟩
  · obtain ⟨bs, r2⟩ := Dp.reads I (.tuple ds) y u he ry
    exact SeqAt.in_tuple_reads r2 r1 hc (SeqAt.canLay_of_shaped sd) (room_in_shaped sd hu) ⟨.bl _, H, I, rfl, q⟩
theorem op_notInA (hu : X.A.units + 65 < cLine) : OpR X (compareOp .NotIn) (rInA X.K true) := by
  intro pins s σ H x y v u Q I rx ry h
  obtain ⟨d, ds, hd, he, sd, se, q⟩ := h
  obtain ⟨as, r1⟩ := Dp.reads I d x v hd rx
  have hc : PyData.canLayAll0 ds = true := SeqAt.canLay_of_shaped se
  rcases he with he | he
  · obtain ⟨bs, r2⟩ := Dp.reads I (.list ds) y u he ry
    exact SeqAt.notIn_list_reads r2 r1 hc (SeqAt.canLay_of_shaped sd) (room_in_shaped sd hu) ⟨.bl _, H, I, rfl, q⟩
  · obtain ⟨bs, r2⟩ := Dp.reads I (.tuple ds) y u he ry
    exact SeqAt.notIn_tuple_reads r2 r1 hc (SeqAt.canLay_of_shaped sd) (room_in_shaped sd hu) ⟨.bl _, H, I, rfl, q⟩
end
section
variable {K : PySem.W.Frag} {Γ : G} {ta tb te : TE} {d e f : D} {ds es : List D}
theorem ev_inL (ha : EvR K ta Γ d) (hb : EvR K tb Γ (.list ds)) (nd : isDict d = false) (sd : SeqAt.shaped d = true) (se : SeqAt.shaped (.list ds) = true) : EvR K (tOp (rInA K false) ta tb) Γ (.bool (ds.any fun z => PyData.eqv z d)) :=
  ev_op ha hb fun x y H r1 r2 Q q => ⟨d, ds, r1.dp nd, .inl (r2.dp rfl), sd, se, q _ H (Ex.refl H) (.inl (.bl _))⟩
theorem ev_inT (ha : EvR K ta Γ d) (hb : EvR K tb Γ (.tuple ds)) (nd : isDict d = false) (sd : SeqAt.shaped d = true) (se : SeqAt.shaped (.list ds) = true) : EvR K (tOp (rInA K false) ta tb) Γ (.bool (ds.any fun z => PyData.eqv z d)) :=
  ev_op ha hb fun x y H r1 r2 Q q => ⟨d, ds, r1.dp nd, .inr (r2.dp rfl), sd, se, q _ H (Ex.refl H) (.inl (.bl _))⟩
theorem ev_niL (ha : EvR K ta Γ d) (hb : EvR K tb Γ (.list ds)) (nd : isDict d = false) (sd : SeqAt.shaped d = true) (se : SeqAt.shaped (.list ds) = true) : EvR K (tOp (rInA K true) ta tb) Γ (.bool (!ds.any fun z => PyData.eqv z d)) :=
  ev_op ha hb fun x y H r1 r2 Q q => ⟨d, ds, r1.dp nd, .inl (r2.dp rfl), sd, se, q _ H (Ex.refl H) (.inl (.bl _))⟩
theorem ev_niT (ha : EvR K ta Γ d) (hb : EvR K tb Γ (.tuple ds)) (nd : isDict d = false) (sd : SeqAt.shaped d = true) (se : SeqAt.shaped (.list ds) = true) : EvR K (tOp (rInA K true) ta tb) Γ (.bool (!ds.any fun z => PyData.eqv z d)) :=
  ev_op ha hb fun x y H r1 r2 Q q => ⟨d, ds, r1.dp nd, .inr (r2.dp rfl), sd, se, q _ H (Ex.refl H) (.inl (.bl _))⟩
/-- is, is not of bools -/
theorem ev_isB {a b : Bool} (ha : EvR K ta Γ (.bool a)) (hb : EvR K tb Γ (.bool b)) : EvR K (tOp rIsB ta tb) Γ (.bool (decide (a = b))) :=
  ev_op ha hb fun x y H r1 r2 Q q => ⟨a, b, r1.bool, r2.bool, q _ H (Ex.refl H) (.inl (.bl _))⟩
theorem ev_isNotB {a b : Bool} (ha : EvR K ta Γ (.bool a)) (hb : EvR K tb Γ (.bool b)) : EvR K (tOp rNotB ta tb) Γ (.bool (!decide (a = b))) :=
  ev_op ha hb fun x y H r1 r2 Q q => ⟨a, b, r1.bool, r2.bool, q _ H (Ex.refl H) (.inl (.bl _))⟩
end
theorem inl_shaped {xs : List D} (h : SeqAt.shaped (.tuple xs) = true) : SeqAt.shaped (.list xs) = true := h

/-! ### isinstance -/
def tyD : D → String
  | .none => "NoneType"
  | .bool _ => "bool"
  | .int _ => "int"
  | .str _ => "str"
  | .list _ => "list"
  | .tuple _ => "tuple"
  | .dict _ => "dict"
theorem tyx_of {K : PySem.W.Frag} {H : Hp} {v : V} : ∀ {d : D}, Dp K H v d → d ≠ .none → TyX K H v (.type (tyD d))
  | .bool b, h, _ => by cases h; exact .base (.bl b)
  | .int i, h, _ => by cases h; exact .base (.int i)
  | .str x, h, _ => by cases h; exact .base (.str x)
  | .list ds, h, _ => by
    cases h with
    | lst hs _ =>
      rcases hs with (h | ⟨o, h⟩) | ⟨o, its, n, hk, hc, _⟩
      · exact .base (.lst h)
      · exact .base (.frz h)
      · exact .kList hk hc
  | .tuple ds, h, _ => by
    cases h with
    | tup hs _ =>
      obtain ⟨i, h⟩ := hs
      exact .fTuple h
  | .dict _, h, _ => by cases h
  | .none, h, n => absurd rfl n
theorem ev_isi {K : PySem.W.Frag} {Γ : G} {ta : TE} {d : D} {T : String} {b : Bool} (ha : EvR K ta Γ d) (nd : isDict d = false) (nn : d ≠ .none) (hk : kitB (tyD d) T = some b) : EvR K (tCB (rIsi K) (tCons ta (tCons (tC (.ty T)) tNil))) Γ (.bool b) := fun σ H E Q q =>
  ha σ H E _ fun v H1 e1 r1 => ⟨v, .ty T, .type (tyD d), .type T, b, rfl, .ty T, tyx_of (r1.dp nd) nn, kit_ty hk, q _ H1 e1 (.inl (.bl b))⟩

/-! ### min of a tuple of ints -/
def rMinT (K : PySem.W.Frag) : List V → Hp → VK → Prop := fun vs H Q => ∃ (a : Addr) (n : Int) (ns : List Int), vs = [V.ref a] ∧ L2.SqT K H a ((n :: ns).map V.int) ∧ Q (.int (ns.foldl min n)) H
theorem alike_ints (ns : List Int) : PySem.W.AlikeAll (ns.map PyData.int) := by
  refine ⟨fun x hx y hy => ?_, fun x hx => ?_⟩
  · obtain ⟨a, _, rfl⟩ := List.mem_map.mp hx
    obtain ⟨b, _, rfl⟩ := List.mem_map.mp hy
    rfl
  · obtain ⟨a, _, rfl⟩ := List.mem_map.mp hx
    intro z
    cases z
theorem depth_ints : ∀ ns : List Int, PyData.depthAll (ns.map PyData.int) = 0
  | [] => rfl
  | n :: ns => by
    rw [List.map_cons, PyData.depthAll, depth_ints ns]
    rfl
theorem cr_minT {X : Cx} (hc : X.calm = true) (hu : X.A.units + 65 < cLine) : CallR X (.builtin "min") (rMinT X.K) := by
  intro pins s σ H vs us Q I r h
  obtain ⟨a, n, ns, rfl, hs, q⟩ := h
  obtain ⟨its, rv, ht, hz⟩ := I.tuple hs
  rw [Vals.ref1 r]
  obtain ⟨as, hr⟩ := Dp.readsAll I ((n :: ns).map PyData.int) _ its (DpAll.of_ints (K := X.K) (H := H) (n :: ns)).l rv
  have hd := depth_ints (n :: ns)
  refine PySem.W.min_tuple_data (x := .int n) (xs := ns.map .int) (I.ok.hd hc) ht hr (alike_ints (n :: ns)) ?_ fun i v h' tk bs hv hrd hk => ?_
  · show X.A.units + 1 + PyData.depthAll ((n :: ns).map PyData.int) < cLine
    rw [hd]
    omega
  · rw [PySem.W.minD_ints] at hrd
    cases hrd with
    | int i t => exact ⟨.int _, H, I.kept hk, ⟨_, rfl⟩, q⟩
theorem ev_minT {K : PySem.W.Frag} {Γ : G} {ta : TE} {n : Int} {ns : List Int} (h : EvR K ta Γ (tI (n :: ns))) : EvR K (tCB (rMinT K) (tCons ta tNil)) Γ (.int (ns.foldl min n)) :=
  ev_cb (eas_cons h eas_nil) fun vs H r Q q => by
    obtain ⟨v, rfl, r1⟩ := rp1 r
    obtain ⟨a, ws, rfl, hs, hd⟩ := r1.tup
    rw [DpAll.ints hd] at hs
    exact ⟨a, n, ns, rfl, hs, q _ H (Ex.refl H) (.inl (.int _))⟩
/-- max, min of one list or tuple or of two ints: one rule for min -/
def rMinX (K : PySem.W.Frag) : List V → Hp → VK → Prop := fun vs H Q => rMin2' vs H Q ∨ rMinT K vs H Q
theorem cr_minX {X : Cx} (hc : X.calm = true) (hu : X.A.units + 65 < cLine) : CallR X (.builtin "min") (rMinX X.K) := (call_min2 hc).or (cr_minT hc hu)
theorem ev_minX2 {K : PySem.W.Frag} {Γ : G} {ta tb : TE} {i j : Int} (h : EvR K ta Γ (.int i)) (h2 : EvR K tb Γ (.int j)) : EvR K (tCB (rMinX K) (tCons ta (tCons tb tNil))) Γ (.int (if j < i then j else i)) :=
  ev_cb (eas_cons h (eas_cons h2 eas_nil)) fun vs H r Q q => by
    obtain ⟨v, w, rfl, r1, r2⟩ := rp2 r
    exact .inl ⟨i, j, by rw [r1.int, r2.int], q _ H (Ex.refl H) (.inl (.int _))⟩
theorem ev_minXT {K : PySem.W.Frag} {Γ : G} {ta : TE} {n : Int} {ns : List Int} (h : EvR K ta Γ (tI (n :: ns))) : EvR K (tCB (rMinX K) (tCons ta tNil)) Γ (.int (ns.foldl min n)) :=
  ev_cb (eas_cons h eas_nil) fun vs H r Q q => by
    obtain ⟨v, rfl, r1⟩ := rp1 r
    obtain ⟨a, ws, rfl, hs, hd⟩ := r1.tup
    rw [DpAll.ints hd] at hs
    exact .inr ⟨a, n, ns, rfl, hs, q _ H (Ex.refl H) (.inl (.int _))⟩
end KW

set_option Elab.async false
set_option linter.all false
set_option maxRecDepth 100000
set_option maxHeartbeats 4000000
/-! a sequence read backwards: xs[::-1] of a list or a tuple -/
namespace KW
open PySem PySem.Spec PyProof.Rows L2 Evl
section
variable {prog : Program} {w : World} {A : Around} {E : Value → Shared → Prop} {s : Shared}
theorem back_applied {sl : Addr} {n : Nat} {tk : Tok} {Q : Int × Int × Nat → Shared → Prop} (hs : s.heap.IsSliceOf sl .none .none (.int (-1) tk)) (h : Q ((n : Int) - 1, -1, n) s) :
    wpAny (model prog w) A (Builtin.Slice.sliceApplied (.ref sl) (pure (n : Int))) Q E s := by
  obtain ⟨os, hos, hcs, hds⟩ := id hs
  unfold Builtin.Slice.sliceApplied Builtin.Slice.sliceFields
  refine wpAny_bind (wpAny_bind (wpAny_field hos hds (x := .none) rfl (wpAny_bind (wpAny_field hos hds (x := .none) rfl (wpAny_bind (wpAny_field hos hds (x := .int (-1) tk) rfl (wpAny_pure ?_)))))))
  refine wpAny_bind (HT.slicePart_ (.int (-1) tk) ?_)
  show wpAny _ _ (if ((-1 : Int) == 0) = true then _ else _) _ _ s
  rw [if_neg (by decide)]
  refine wpAny_bind (HT.slicePart_ .none (wpAny_bind (HT.slicePart_ .none (wpAny_bind (wpAny_pure ?_)))))
  have e1 : Builtin.Slice.sliceAdjust none none (-1) (n : Int) = ((n : Int) - 1, -1) := by
    unfold Builtin.Slice.sliceAdjust
    rfl
  have e2 : Builtin.Slice.slicePlaces ((n : Int) - 1) (-1) (-1) = n := by
    unfold Builtin.Slice.slicePlaces
    have h1 : ¬ ((-1 : Int) > 0) := by omega
    simp only [h1, if_false]
    split
    · have h3 : (n : Int) - 1 - -1 - 1 = (n : Int) - 1 := by omega
      simp <;> omega
    · omega
  show wpAny _ _ (match Builtin.Slice.sliceAdjust none none (-1) (n : Int) with | (lo, hi) => pure (lo, (-1 : Int), Builtin.Slice.slicePlaces lo hi (-1))) _ _ s
  rw [e1]
  show wpAny _ _ (pure ((n : Int) - 1, (-1 : Int), Builtin.Slice.slicePlaces ((n : Int) - 1) (-1) (-1))) _ _ s
  rw [e2]
  exact wpAny_pure h
theorem back_pick (xs : Array Value) : ((List.range xs.size).filterMap fun (m : Nat) => xs[(((xs.size : Nat) : Int) - 1 + (m : Int) * -1).toNat]?).toArray = xs.toList.reverse.toArray := by
  congr 1
  have e : ∀ k, k ≤ xs.size → ((List.range k).filterMap fun (m : Nat) => xs[(((xs.size : Nat) : Int) - 1 + (m : Int) * -1).toNat]?) = (xs.toList.drop (xs.size - k)).reverse := by
    intro k
    induction k with
    | zero => intro _; simp
    | succ k ih =>
      intro hk
      rw [List.range_succ, List.filterMap_append, ih (by omega)]
      have hi : (((xs.size : Nat) : Int) - 1 + (k : Int) * -1).toNat = xs.size - (k + 1) := by omega
      have hlt : xs.size - (k + 1) < xs.size := by omega
      have hd : xs.toList.drop (xs.size - (k + 1)) = xs[xs.size - (k + 1)] :: xs.toList.drop (xs.size - k) := by
        rw [List.drop_eq_getElem_cons (by simpa using hlt)]
        have : xs.size - (k + 1) + 1 = xs.size - k := by omega
        rw [this]
        simp
      rw [hd, List.reverse_cons]
      congr 1
      simp only [List.filterMap_cons, List.filterMap_nil, hi]
      rw [Array.getElem?_eq_getElem hlt]
  rw [e xs.size (Nat.le_refl _), Nat.sub_self, List.drop_zero]
theorem back_tuple {t sl : Addr} {items : Array Value} {tk : Tok} {Q : Value → Shared → Prop} (ht : IsTup s.heap t items) (hs : s.heap.IsSliceOf sl .none .none (.int (-1) tk))
    (h : Q (.ref s.heap.objs.size) { s with heap := s.heap.push { cls := .type "tuple", data := .seq items.toList.reverse.toArray } }) (hsz : items.size ≤ sizeLine) : wpAny (model prog w) A (getItem (.ref t) (.ref sl)) Q E s := by
  have hfit : sizeOk (.seq items.toList.reverse.toArray) := by
    show items.toList.reverse.toArray.size ≤ sizeLine
    simpa using hsz
  have hT : s.TypeIs (.ref sl) "slice" := by
    obtain ⟨os, hos, hcs, _⟩ := id hs
    exact ⟨os, hos, hcs⟩
  unfold getItem
  try with_reducible refine wpAny_holding ?_
  first | refine wpAny_bind (wpAny_pure ?_) | skip
  refine wpAny_bind (wpAny_sequenceKey ht.typeIs (by decide) ?_)
  refine wpAny_bind (wpAny_callSpecial?_slot (name := Str.ofString "__getitem__") ht.typeIs slot_tuple_getitem (wpAny_call_entry slot_tuple_getitem ht.typeIs entry_tuple_getitem ?_ (args_tuple_getitem _ _)))
  show wpAny _ _ (Builtin.Tuple.tupleItemsOf (.ref t) >>= _) _ _ s
  refine wpAny_bind (tupleItemsOf_ ht (wpAny_bind (wpAny_typeOf hT ?_)))
  rw [if_pos (by decide)]
  refine wpAny_bind (back_applied (n := items.size) hs ?_)
  have hno : ¬ ((((items.size : Nat) : Int) - 1 == 0 && (-1 : Int) == 1 && items.size == items.size) = true) := by simp
  show wpAny _ _ (if (((items.size : Nat) : Int) - 1 == 0 && (-1 : Int) == 1 && items.size == items.size) = true then _ else _) _ _ s
  rw [if_neg hno, back_pick]
  first
    | exact wpAny_bind (m := Builtin.Tuple.tupleExact _) (wpAny_newObj_type (wpAny_pure ⟨_, rfl, wpAny_pure h⟩) hfit)
    | exact wpAny_bind (m := Builtin.Tuple.tupleExact _) (wpAny_newObj_type (wpAny_bind (wpAny_pure (wpAny_pure ⟨_, rfl, wpAny_pure h⟩))) hfit)
    | exact wpAny_bind (wpAny_bind (m := Builtin.Tuple.tupleExact _) (wpAny_newObj_type (wpAny_pure (wpAny_pure ⟨_, rfl, wpAny_pure h⟩)) hfit))
    | exact wpAny_bind (wpAny_bind (m := Builtin.Tuple.tupleExact _) (wpAny_newObj_type (wpAny_pure ⟨_, rfl, wpAny_pure h⟩) hfit))
end
section
variable {X : Cx}
def tRevX (K : PySem.W.Frag) (te : TE) : TE := fun σ H Q => te σ H fun x H1 => ∃ a xs, x = .ref a ∧ ((SqL K H1 a xs ∧ ∀ p, H1 p = none → Q (.ref p) (upd H1 p (.lst xs.reverse))) ∨ (L2.SqT K H1 a xs ∧ ∀ {its : List Value} p, H1 p = none → Q (.ref p) (upd H1 p (XT its xs.reverse))))
theorem pe_revX {e : Expr} {te : TE} {k : Nat} {p1 p2 p3 pos : Pos} (he : PE X e te) : PE X (.Subscript e (.Slice none none (some (.UnaryOp .USub (.Constant (.int 1) k p1) p2)) p3) pos) (tRevX X.K te) := by
  refine ⟨fun pins s σ H Q I h => Subscript_ (thn (he.run pins s σ H _ I h) fun v s1 ⟨x, H1, I1, r1, q1⟩ => ?_)⟩
  obtain ⟨a, xs, ex, q⟩ := q1
  subst ex
  cases r1
  have st : PE X (.UnaryOp .USub (.Constant (.int 1) k p1) p2) (tUn (rU fun i => .int (-i)) (tC (.int 1))) := pe_un un_neg pe_int
  refine wpAny_Slice (thn (po_none.run pins s1 σ H1 (fun o H2 => o = none ∧ H2 = H1) I1 ⟨rfl, rfl⟩) fun vl s2 ⟨l, H2, I2, pl, el, e2⟩ => ?_)
  subst el e2
  refine thn (po_none.run pins s2 σ H2 (fun o H3 => o = none ∧ H3 = H2) I2 ⟨rfl, rfl⟩) fun vu s3 ⟨u, H3, I3, pu, eu, e3⟩ => ?_
  subst eu e3
  refine thn ((po_some st).run pins s3 σ H3 (fun o H4 => o = some (-1) ∧ H4 = H3) I3 ⟨1, rfl, -1, rfl, rfl, rfl⟩) fun vs s4 ⟨o, H4, I4, ps, eo, e4⟩ => ?_
  subst eo e4
  cases pl
  cases pu
  cases ps with
  | int _ tk =>
  have I5 : Inv X pins σ H4 { s4 with heap := s4.heap.push { cls := .type "slice", data := .fields #[.none, .none, .int (-1) tk] } } := I4.kept (t' := s4.toks) fun b ob q => Heap.get?_push_of_some _ q
  rcases q with ⟨hx, q⟩ | ⟨hx, q⟩
  · obtain ⟨its, r, ht, hz⟩ := I5.list hx
    have hlen := r.length
    refine tail_any (ops := [.ref a, .ref s4.heap.objs.size]) ht.isList.typeIs (PySem.slot_list_getitem.lookup) ?_ (by with_unfolding_all rfl)
    refine wpAny_getItem_list_slice ht.isList (Heap.IsSliceOf.new _ .none .none (.int (-1) tk)) .none .none (.int (-1) tk) (by decide) ?_ (by rw [List.size_toArray]; omega)
    rw [PySem.W.krv_pick]
    exact ⟨.ref _, _, I5.lnew (its := its.reverse) (t' := s4.toks) (r.reverse) (by rw [List.length_reverse]; exact hz), rfl, q _ I5.fresh⟩
  · obtain ⟨its, r, ht, hz⟩ := I5.tuple hx
    have hlen := r.length
    refine tail_any (ops := [.ref a, .ref s4.heap.objs.size]) ht.typeIs (slot_tuple_getitem.lookup) ?_ (by with_unfolding_all rfl)
    refine back_tuple ht (Heap.IsSliceOf.new _ .none .none (.int (-1) tk)) ?_ (by rw [List.size_toArray]; omega)
    exact ⟨.ref _, _, I5.laid (t' := s4.toks) (fun b ob q => Heap.get?_push_of_some _ q) (Nat.le_refl _) (xt_ok (its := its.reverse) (by rw [List.length_reverse]; exact hz) r.reverse (Heap.get?_push_size _ rfl)), rfl, q _ I5.fresh⟩
end
section
variable {K : PySem.W.Frag} {Γ : G} {te : TE} {ds : List D}
theorem ef_revX (ha : EvR K te Γ (.list ds)) : EvF K (tRevX K te) Γ ds.reverse := fun σ H E Q q =>
  ha σ H E _ fun v H1 e1 r1 => by
    obtain ⟨a, vs, rfl, hs, hd⟩ := r1.lst
    exact ⟨a, vs, rfl, .inl ⟨hs, fun p hp => q p _ _ (fresh_back e1 hp) (e1.trans (Ex.new hp)) upd_same (DpAll.mono (Ex.new hp) (DpAll.reverse hd))⟩⟩
theorem ev_revX (ha : EvR K te Γ (.tuple ds)) : EvR K (tRevX K te) Γ (.tuple ds.reverse) := fun σ H E Q q =>
  ha σ H E _ fun v H1 e1 r1 => by
    obtain ⟨a, vs, rfl, hs, hd⟩ := r1.tup
    exact ⟨a, vs, rfl, .inr ⟨hs, fun p hp => q _ _ (e1.trans (Ex.new hp)) (.inl (.tup (st_of upd_same) (DpAll.mono (Ex.new hp) (DpAll.reverse hd))))⟩⟩
end
end KW

set_option Elab.async false
set_option linter.all false
set_option maxRecDepth 100000
set_option maxHeartbeats 8000000
/-! sorted(set(xs)) of a list of ints -/
namespace KW
open PySem PySem.Spec PyProof.Rows L2 Evl
section
variable {P : Program} {w : World} {A : Around} {E : Value → Shared → Prop} {s : Shared}
theorem set_of_list {l : Addr} {items : Array Value} (ns : List Int) {Q : Value → Shared → Prop} (hh : A.handled = none) (hl : s.heap.IsList l items) (hi : IntsAre items.toList ns) (hb : ns.length + 1 < scanBound)
    (h : ∀ (h' : Heap) (tk c : Nat), SetR w h' s.heap.objs.size (fun j => decide (j ∈ ns)) c → c ≤ ns.length → (∀ b o, s.heap.get? b = some o → h'.get? b = some o) → Q (.ref s.heap.objs.size) { s with heap := h', toks := tk }) :
    wpAny (model P w) A (call (.type "set") [.ref l]) Q E s := by
  have hn : items.size = ns.length := by simpa using IntsAre.length hi
  generalize hsz : s.heap.objs.size = p at h
  let ob : Obj := { cls := .type "set", dict := none, data := .set #[] 0 (.fresh 0 0 (!w.params.followText "set-order")) }
  obtain ⟨c, tl, hmro⟩ := F.called_set.mro
  have k1 := F.called_set.made
  have k2 := F.called_set.sub
  have k3 := F.called_set.notType
  have k4 := F.called_set.canCreate
  have k5 := F.typeCall_set_1 (.ref l)
  refine wpAny_call (codeAny_of_tree ?_)
  show wpAny _ _ (callAny (.type "set") _) _ _ _
  refine wpAny_pure ⟨Code.quiet_builtin _ (by decide +kernel), codeAny_builtin F.entry_type_call ?_⟩
  rw [Around.under_plain (weight_type_call_type "set" [.ref l] []) rfl]
  repeat (any_goals (first | assumption | wp_step))
  refine codeAny_mono (code_set_led1 (.ref l) (E := E) (Q₁ := fun v s₁ => v = .ref p ∧ s₁ = { s with heap := s.heap.push ob }) ⟨by rw [hsz], rfl⟩) fun r s₁ hr => ?_
  cases r with
  | error e => exact hr
  | ok fl =>
    cases fl with
    | ret v =>
      obtain ⟨rfl, rfl⟩ := hr
      have g0 : (s.heap.push ob).get? p = some ob := by rw [← hsz]; exact Heap.get?_push_size _ rfl
      have hT : Shared.TypeIs { s with heap := s.heap.push ob } (.ref p) "set" := ⟨_, g0, rfl⟩
      have k6 := F.called_set.init.lookup
      have k7 := F.called_set.init.bind (.ref p)
      repeat (any_goals (first | assumption | wp_step))
      refine codeAny_mono (codeAny_call_builtin (R := wants (fun r s₂ => r = .none ∧ ∃ h' tk c, s₂ = { s with heap := h', toks := tk } ∧ SetR w h' p (fun j => decide (j ∈ ns)) c ∧ c ≤ ns.length ∧ (∀ b o, s.heap.get? b = some o → h'.get? b = some o)) E)
        F.called_set.init.plain F.entry_set_init (check_set_init_1 hT ?_)) fun r₂ s₂ hr₂ => ?_
      · obtain ⟨⟨lc, ld, ldat, lsl⟩, g1, lcls, ln, lseq⟩ := hl
        simp only at lcls lseq
        subst lcls; subst lseq
        have g2 := Heap.get?_push_of_some ob g1
        have j1 := F.sub_list_set
        have j2 := F.sub_list_frozenset
        have j3 : (Value.type "list" == Value.type "dict") = false := by decide
        have g3 : (s.heap.push ob).IsList l items := ⟨_, g2, rfl, ln, rfl⟩
        have lp : l < p := by rw [← hsz]; exact Heap.lt_size g1
        unfold Builtin.«set.__init__» noKeywords Builtin.Frozenset.updateFrom
        generalize hI : pyIter = it
        wp_walk
        subst hI
        refine wpAny_pyIter_list g3 (wpAny_bind (wpAny_runValue ?_))
        have z1 : (s.heap.push ob).objs.size = p + 1 := by rw [Heap.size_push, hsz]
        have ne1 : l ≠ (s.heap.push ob).objs.size := by rw [z1]; exact Nat.ne_of_lt (Nat.lt_succ_of_lt lp)
        have out : p ∉ [(s.heap.push ob).objs.size, l] := by
          rw [z1]
          simp only [List.mem_cons, List.not_mem_nil, or_false, not_or]
          exact ⟨Nat.ne_of_lt (Nat.lt_succ_self _), Nat.ne_of_gt lp⟩
        have at' : ∀ (i : Nat) (v : Value), items[i]? = some v → ∃ k t, ns[i]? = some k ∧ v = .int k t := fun i v hv => by
          have hi' : i < ns.length := by rw [← hn]; exact (Array.getElem?_eq_some_iff.mp hv).1
          obtain ⟨t, e⟩ := IntsAre.int_at hi i v (by rw [Array.getElem?_toList]; exact hv)
          exact ⟨ns[i], t, List.getElem?_eq_getElem hi', by rw [e, List.getD_eq_getElem?_getD, List.getElem?_eq_getElem hi'] <;> rfl⟩
        have hh3 : A.in1.in1.in1.handled = none := by simp [hh]
        refine set_update_ints ((Walks.list hh3 _ l ne1 items).toS) p out ns hn hb at' (items.size - 0) 0 _ (by omega) (Nat.zero_le _) ⟨⟨_, Heap.get?_push_size _ rfl, rfl, rfl⟩, (g3.push _)⟩ ?start ?fin
        case start => exact ⟨0, Nat.le_refl 0, setR_new_at (Heap.get?_push_of_some _ g0)⟩
        case fin =>
          intro s' c' mv hc' hS
          obtain ⟨h', g', d', tk', os'⟩ := s'
          obtain rfl : g' = s.gens := mv.gens
          obtain rfl : d' = s.drawn := mv.drawn
          obtain rfl : os' = s.os := mv.os
          show wpAny _ _ _ _ _ _
          refine wpAny_pure ?_
          show wpAny _ _ (ret Value.none) _ _ _
          rw [hn] at hc'
          refine wpAny_pure ⟨rfl, h', tk', c', rfl, hS, hc', fun b o e => ?_⟩
          have b0 : b < p := by rw [← hsz]; exact Heap.lt_size e
          refine mv.heap b o ?_ (Heap.get?_push_of_some _ (Heap.get?_push_of_some _ e))
          rw [z1]
          simp only [List.mem_cons, List.not_mem_nil, or_false, not_or]
          exact ⟨Nat.ne_of_lt b0, Nat.ne_of_lt (Nat.lt_succ_of_lt b0)⟩
      · cases r₂ with
        | error e => exact hr₂
        | ok f2 =>
          cases f2 with
          | ret r =>
            obtain ⟨rfl, h', tk, c', rfl, hS, hc', hk⟩ := hr₂
            repeat (any_goals (first | assumption | wp_step))
            exact h _ _ _ hS hc' hk
          | _ => exact hr₂.elim
    | _ => exact hr.elim
end
section
variable {X : Cx}
def rSetOf (K : PySem.W.Frag) (w : World) : List V → Hp → VK → Prop := fun xs H Q => ∃ (a : Addr) (ns : List Int), xs = [V.ref a] ∧ SqL K H a (ns.map V.int) ∧ ns.length < 1000 ∧ ∀ p c, H p = none → c ≤ ns.length → Q (.ref p) (upd H p (SetO w p (fun j => decide (j ∈ ns)) c))
theorem cr_setOf (hc : X.calm = true) : CallR X (.type "set") (rSetOf X.K X.w) := by
  intro pins s σ H xs us Q I r h
  obtain ⟨a, ns, rfl, hs, hl, q⟩ := h
  obtain ⟨its, rv, ht, hz⟩ := I.list hs
  rw [Vals.ref1 r]
  refine set_of_list ns (I.ok.hd hc) ht.isList rv.ints (by unfold scanBound; omega) fun h' tk c hS hcn hk => ?_
  exact ⟨.ref _, upd H s.heap.objs.size (SetO X.w s.heap.objs.size (fun j => decide (j ∈ ns)) c), I.laid (t' := tk) hk (Nat.le_refl _) (setO_new hS), rfl, q _ _ I.fresh hcn⟩
end
theorem ef_sortedSet {K : PySem.W.Frag} {w : World} {Γ : G} {te : TE} {ns ms : List Int} (h : EvR K te Γ (lI ns)) (hl : ns.length < 64) (hp : ms.Pairwise (· < ·)) (hm : ∀ k, k ∈ ms ↔ k ∈ ns) :
    EvF K (tCB (rSortedSet w) (tCons (tCB (rSetOf K w) (tCons te tNil)) tNil)) Γ (ms.map .int) := fun σ H E Q q =>
  h σ H E _ fun v H1 e1 r1 => by
    obtain ⟨a, vs, rfl, hs, hd⟩ := r1.lst
    rw [DpAll.ints hd] at hs
    refine ⟨a, ns, rfl, hs, by omega, fun p c hp' hc => ⟨p, fun j => decide (j ∈ ns), c, rfl, upd_same, by omega, fun ms' p2 hp2 hm2 hl2 hn2 => ?_⟩⟩
    have e : ms' = ms := by
      have e1 : ∀ k, k ∈ ms' ↔ k ∈ ms := fun k => by rw [hm2, hm]; simp
      have : ∀ {a b : List Int}, a.Pairwise (· < ·) → b.Pairwise (· < ·) → (∀ k, k ∈ a ↔ k ∈ b) → a = b := by
        intro a
        induction a with
        | nil =>
          intro b _ _ hk
          cases b with
          | nil => rfl
          | cons y ys => exact absurd ((hk y).mpr List.mem_cons_self) (by simp)
        | cons x xs ih =>
          intro b ha hb hk
          cases b with
          | nil => exact absurd ((hk x).mp List.mem_cons_self) (by simp)
          | cons y ys =>
            rw [List.pairwise_cons] at ha hb
            have exy : x = y := by
              have h1 := (hk x).mp List.mem_cons_self
              have h2 := (hk y).mpr List.mem_cons_self
              rcases List.mem_cons.mp h1 with h1 | h1
              · exact h1
              · rcases List.mem_cons.mp h2 with h2 | h2
                · exact h2.symm
                · have := hb.1 x h1
                  have := ha.1 y h2
                  omega
            subst exy
            congr 1
            refine ih ha.2 hb.2 fun k => ?_
            have := hk k
            simp only [List.mem_cons] at this
            constructor
            · intro hk1
              rcases this.mp (.inr hk1) with h | h
              · have := ha.1 k hk1; omega
              · exact h
            · intro hk1
              rcases this.mpr (.inr hk1) with h | h
              · have := hb.1 k hk1; omega
              · exact h
      exact this hp2 hp e1
    subst e
    have ex : Ex H1 (upd (upd H1 p (SetO w p (fun j => decide (j ∈ ns)) c)) p2 (.lst (ms'.map V.int))) := (Ex.new hp').trans (Ex.new hn2)
    exact q p2 _ _ (fresh_back (e1.trans (Ex.new hp')) hn2) (e1.trans ex) upd_same (DpAll.of_ints _)
end KW

set_option Elab.async false
set_option linter.all false
set_option maxRecDepth 100000
set_option maxHeartbeats 8000000
/-! calls by name; what is walked, list or tuple; great products -/
namespace KW
open PySem PySem.Spec PyProof.Rows L2 Evl
/-- the module's name x holds a def that keeps sp -/
structure DefOk (P : Program) (w : World) (K : PySem.W.Frag) (mg : Str → Option Value) (base : Heap) (x : Str) (ps : List Str) (k : Nat) (sp : Sp) : Prop where
  ok : ∃ f fd, FnOk P w K mg base CX0 k f fd ps sp ∧ mg x = some (.ref f) ∧ PySem.W.keepIn K (.ref f) = true ∧ Binds K fd ps []
theorem DefOk.mk' {P : Program} {w : World} {K : PySem.W.Frag} {mg : Str → Option Value} {base : Heap} {x : Str} {ps : List Str} {k : Nat} {sp : Sp} {f : Addr} {fd : FuncData} {q : Str} {st : Stmt} (F : Fun K x q st f fd) (h : FnOk P w K mg base CX0 k f fd ps sp) (g : mg x = some (.ref f)) (b : Binds K fd ps []) : DefOk P w K mg base x ps k sp :=
  ⟨f, fd, h, g, F.kp, b⟩
theorem pe_callD {X : Cx} {x : Str} {ps : List Str} {k : Nat} {sp : Sp} {e : Expr} {es : List Expr} {t : TA} {p pos : Pos} (h : DefOk X.prog X.w X.K X.mg X.base x ps k sp) (hr : Room k X.A) (hg : Gl X x) (ha : PA X (e :: es) t)
    (h1 : (x == ("__debug__" : Str)) = false := by decide) (h2 : starEach (e :: es) X.env = (false, eval e X.env) :: starEach es X.env := by rfl) (h3 : (backTo pos (starEach es X.env)).any (·.1) = false := by rfl) : PE X (.Call (.Name x p) (e :: es) [] pos) (tCall sp [] E0 t) := by
  obtain ⟨f, fd, F, g, kp, b⟩ := h.ok
  exact pe_call F hr hg g kp b .nil pass0 ha h1 h2 h3
/-- list or tuple, walked -/
def iSeq (K : PySem.W.Frag) (tl : TE) : TI := fun σ H R => tl σ H fun x H1 => ∃ a, x = .ref a ∧ (((∃ xs, SqL K H1 a xs) ∧ R (Itl K a) H1) ∨ ((∃ xs, L2.SqT K H1 a xs) ∧ R (Itt K a) H1))
theorem pi_seq {X : Cx} {tg l : Expr} {tl : TE} (hl : PE X l tl) : PI X tg l (iSeq X.K tl) := by
  refine ⟨fun pins s σ H R I h => thn (hl.run pins s σ H _ I h) fun v s1 ⟨x, H1, I1, r1, a, ex, q⟩ => ?_⟩
  subst ex
  cases r1
  have fp : ∀ b ∈ [s1.heap.objs.size], FpOk X pins H1 b := fun b hb => by
    rw [List.mem_singleton.mp hb]
    exact I1.fpOk (Nat.le_refl _) (I1.hok.fresh (Nat.le_refl _))
  rcases q with ⟨⟨xs, hq⟩, q⟩ | ⟨⟨xs, hq⟩, q⟩
  · obtain ⟨its, rv, p, _⟩ := I1.list hq
    exact wpAny_pyIter_list p.isList ⟨_, _, _, _, H1, rfl, I1.kept (t' := s1.toks) fun b o e => Heap.get?_push_of_some _ e, turn_list a _, ⟨_, Heap.get?_push_size _ rfl, rfl, rfl⟩, fp, q⟩
  · obtain ⟨its, rv, p, _⟩ := I1.tuple hq
    exact wpAny_pyIter_tuple (show s1.heap.IsTuple a its.toArray from p) ⟨_, _, _, _, H1, rfl, I1.kept (t' := s1.toks) fun b o e => Heap.get?_push_of_some _ e, turn_tuple a _, ⟨_, Heap.get?_push_size _ rfl, rfl, rfl⟩, fp, q⟩
section
variable {K : PySem.W.Frag} {Γ : G} {tl te : TE} {ds : List D} {S : SS} {i : Nat}
theorem it_seqT (h : EvR K tl Γ (.tuple ds)) : EvIt K (iSeq K tl) Γ ds := fun σ H E R q =>
  h σ H E _ fun v H1 e1 r => by
    obtain ⟨a, vs, rfl, hs, hd⟩ := r.tup
    exact ⟨a, rfl, .inr ⟨⟨vs, hs⟩, q _ H1 e1 (walks_tup hs hd)⟩⟩
theorem it_seqL (h : EvR K tl Γ (.list ds)) : EvIt K (iSeq K tl) Γ ds := fun σ H E R q =>
  h σ H E _ fun v H1 e1 r => by
    obtain ⟨a, vs, rfl, hs, hd⟩ := r.lst
    exact ⟨a, rfl, .inl ⟨⟨vs, hs⟩, q _ H1 e1 (walks_lst hs hd)⟩⟩
theorem itm_seqT (h : EvR K tl Γ (.tuple ds)) (n : noLs ds = true) : EvItM K (iSeq K tl) Γ ds := fun σ H E R q =>
  h σ H E _ fun v H1 e1 r => by
    obtain ⟨a, vs, rfl, hs, hd⟩ := r.tup
    exact ⟨a, rfl, .inr ⟨⟨vs, hs⟩, q _ H1 e1 fun D xs hD => walks_tup (del_sqT (e1 _ _ hD) _ _ hs) (DpAll.mapT (del_sqT (e1 _ _ hD)) _ _ n hd)⟩⟩
theorem its_seqT (h : EvR K te (gm S) (.tuple ds)) (n : noLs ds = true) : EvItS K (iSeq K te) S ds := fun Hm H σ A sa R q =>
  h σ H sa.env _ fun v H1 e1 r => by
    obtain ⟨a, vs, rfl, hs, hd⟩ := r.tup
    exact ⟨a, rfl, .inr ⟨⟨vs, hs⟩, q _ _ H1 (sa.strip_of e1) (sa.grow e1) (walks_tup (sa.sqT e1 _ _ hs) (DpAll.mapT (sa.sqT e1) _ _ n hd))⟩⟩
theorem its_seqV (hs : S[i]? = some (.im (.list ds))) : EvItS K (iSeq K (tVar i)) S ds := fun Hm H σ A sa R q => by
  obtain ⟨v, h1, h2⟩ := sa.own i _ hs (by intro z; cases z)
  obtain ⟨a, vs, rfl, hl, hd⟩ := h2.1.lst
  exact ⟨_, h1, a, rfl, .inl ⟨⟨vs, ex_l sa.ex hl⟩, q _ Hm H (Ex.refl _) sa (walks_lst hl hd)⟩⟩
theorem its_seqF (h : EvF K te (gm S) ds) (n : noLs ds = true) : EvItS K (iSeq K te) S ds := fun Hm H σ A sa R q =>
  h σ H sa.env _ fun p vs H1 np e1 hp hd => by
    have hl : strip H1 A p = some (.lst vs) := by rw [strip_out (fresh_own sa np)]; exact hp
    exact ⟨p, rfl, .inl ⟨⟨vs, sq_of hp⟩, q _ _ H1 (sa.strip_of e1) (sa.grow e1) (walks_lst (sq_of hl) (DpAll.mapT (sa.sqT e1) _ _ n hd))⟩⟩
end
/-- the built-in names that the module does not bind -/
structure Bl (mg : Str → Option Value) : Prop where
  abs : mg "abs" = none
  all : mg "all" = none
  bool : mg "bool" = none
  dict : mg "dict" = none
  int : mg "int" = none
  isinstance : mg "isinstance" = none
  len : mg "len" = none
  list : mg "list" = none
  max : mg "max" = none
  min : mg "min" = none
  range : mg "range" = none
  set : mg "set" = none
  sorted : mg "sorted" = none
  sum : mg "sum" = none
  tuple : mg "tuple" = none
/-! ranges as lists and tuples -/
section
variable {K : PySem.W.Frag} {Γ : G} {ta tb : TE} {i j : Int}
theorem rgV_map (a b : Int) : rgV a b = (rgI a (b - a).toNat).map V.int := by
  unfold rgV rgI
  rw [List.map_map]
  rfl
theorem ef_listRg1 (h : EvR K ta Γ (.int j)) (hj : 0 ≤ j ∧ j ≤ 100000) : EvF K (tLstRg (tRg1 ta)) Γ ((rgI 0 j.toNat).map .int) := fun σ H E Q q =>
  h σ H E _ fun v H1 e1 r1 => ⟨j, r1.int, ⟨by omega, by omega, by omega, by omega, by omega⟩, fun p hp => by
    rw [rgV_map, Int.sub_zero]
    exact q p _ _ (fresh_back e1 hp) (e1.trans (Ex.new hp)) upd_same (DpAll.of_ints _)⟩
theorem ev_tupRg1 (h : EvR K ta Γ (.int j)) (hj : 0 ≤ j ∧ j ≤ 100000) : EvR K (tTupRg (tRg1 ta)) Γ (tI (rgI 0 j.toNat)) := fun σ H E Q q =>
  h σ H E _ fun v H1 e1 r1 => ⟨j, r1.int, ⟨by omega, by omega, by omega, by omega, by omega⟩, fun p hp => by
    rw [rgV_map, Int.sub_zero]
    exact q _ _ (e1.trans (Ex.new hp)) (.inl (.tup (st_of upd_same) (DpAll.of_ints _)))⟩
theorem ev_tupRg2 (h : EvR K ta Γ (.int i)) (h2 : EvR K tb Γ (.int j)) (hj : 0 ≤ i ∧ i ≤ 100000 ∧ 0 ≤ j ∧ j ≤ 100000) : EvR K (tTupRg (tRg2 ta tb)) Γ (tI (rgI i (j - i).toNat)) := fun σ H E Q q =>
  h σ H E _ fun v H1 e1 r1 => h2 σ H1 (E.mono e1) _ fun v2 H2 e2 r2 => ⟨i, j, r1.int, r2.int, ⟨by omega, by omega, by omega, by omega, by omega⟩, fun p hp => by
    rw [rgV_map]
    exact q _ _ ((e1.trans e2).trans (Ex.new hp)) (.inl (.tup (st_of upd_same) (DpAll.of_ints _)))⟩
end
end KW

set_option Elab.async false
set_option linter.all false
set_option maxRecDepth 100000
set_option maxHeartbeats 8000000
/-! the value lemmas that the small tactic takes -/
namespace KW
open PySem PySem.Spec PyProof.Rows L2 Evl
section
variable {K : PySem.W.Frag} {Γ : G} {ta tb te : TE} {d e f : D} {ds es : List D} {i j k : Int} {a b c : Bool}
theorem rv_add : RvR K (rAddX K) (.int i) (.int j) (.int (i + j)) := RvR.l rv_addI
theorem rv_addT (hl : ds.length + es.length ≤ 100000) : RvR K (rAddX K) (.tuple ds) (.tuple es) (.tuple (ds ++ es)) := RvR.rr (RvR.l (rv_catT hl))
theorem rv_I0 {g : Int → Int → V} (hf : flatVD (g i j) = true) : RvR K (rI0 g) (.int i) (.int j) (VD (g i j)) := fun x y H r1 r2 Q q => ⟨i, j, r1.int, r2.int, q _ H (Ex.refl H) (rp_VD hf)⟩
theorem rv_I {C : Int → Int → Prop} {g : Int → Int → V} (hf : flatVD (g i j) = true) (hc : C i j) : RvR K (rI C g) (.int i) (.int j) (VD (g i j)) := fun x y H r1 r2 Q q => ⟨i, j, r1.int, r2.int, hc, q _ H (Ex.refl H) (rp_VD hf)⟩
theorem rv_sub : RvR K (rI0 fun i j => .int (i - j)) (.int i) (.int j) (.int (i - j)) := rv_I0 rfl
theorem rv_lt : RvR K (rI0 fun i j => .bl (decide (i < j))) (.int i) (.int j) (.bool (decide (i < j))) := rv_I0 rfl
theorem rv_le : RvR K (rI0 fun i j => .bl (decide (i ≤ j))) (.int i) (.int j) (.bool (decide (i ≤ j))) := rv_I0 rfl
theorem rv_gt : RvR K (rI0 fun i j => .bl (decide (j < i))) (.int i) (.int j) (.bool (decide (j < i))) := rv_I0 rfl
theorem rv_ge : RvR K (rI0 fun i j => .bl (decide (j ≤ i))) (.int i) (.int j) (.bool (decide (j ≤ i))) := rv_I0 rfl
theorem rv_mul (hc : CMul i j) : RvR K (rI CMul fun i j => .int (i * j)) (.int i) (.int j) (.int (i * j)) := rv_I rfl hc
theorem rv_mod (hc : 0 < j) : RvR K (rI (fun _ j => 0 < j) fun i j => .int (i % j)) (.int i) (.int j) (.int (i % j)) := rv_I rfl hc
theorem rv_fdiv (hc : CDiv i j) : RvR K (rI CDiv fun i j => .int (i / j)) (.int i) (.int j) (.int (i / j)) := rv_I rfl hc
theorem rv_pow (hc : CPow i j) : RvR K (rI CPow fun i j => .int (i ^ j.toNat)) (.int i) (.int j) (.int (i ^ j.toNat)) := rv_I rfl hc
theorem rv_ixT (h : atI ds i = some d) : RvR K (rIxX K) (.tuple ds) (.int i) d := fun x y H r1 r2 Q q => by
  obtain ⟨a, vs, rfl, hs, hd⟩ := r1.tup
  obtain ⟨v, h1, h2⟩ := DpAll.atI hd h
  exact .inr ⟨a, vs, i, v, rfl, r2.int, hs, h1, q v H (Ex.refl H) (.inl h2)⟩
theorem rv_ixL (h : atI ds i = some d) : RvR K (rIxX K) (.list ds) (.int i) d := fun x y H r1 r2 Q q => by
  obtain ⟨a, vs, rfl, hs, hd⟩ := r1.lst
  obtain ⟨v, h1, h2⟩ := DpAll.atI hd h
  exact .inl ⟨a, vs, i, v, rfl, r2.int, hs, h1, q v H (Ex.refl H) (.inl h2)⟩
theorem atI_int {α : Type} {xs : List α} (z : α) (h0 : 0 ≤ k) (h1 : k < (xs.length : Int)) : atI xs k = some (xs.getD k.toNat z) := by
  have e : k = (k.toNat : Int) := by omega
  have hlt : k.toNat < xs.length := by omega
  have : atI xs (k.toNat : Int) = some (xs.getD k.toNat z) := atI_nat (by rw [List.getElem?_eq_getElem hlt, List.getD_eq_getElem?_getD, List.getElem?_eq_getElem hlt]; rfl)
  rw [← e] at this
  exact this
theorem atI_map {α β : Type} {f : α → β} {xs : List α} {x : α} (h : atI xs k = some x) : atI (xs.map f) k = some (f x) := by
  unfold atI at h ⊢
  rw [List.length_map]
  cases q : ixN xs.length k with
  | none => rw [q] at h; cases h
  | some j =>
    rw [q] at h
    have h : xs[j]? = some x := h
    show (xs.map f)[j]? = some (f x)
    rw [List.getElem?_map, h]
    rfl
theorem atI_back {α : Type} {xs : List α} (z : α) (h : xs ≠ []) : atI xs (-1) = some (xs.getLastD z) := by
  have e := List.dropLast_concat_getLast h
  have : atI (xs.dropLast ++ [xs.getLast h]) (-1) = some (xs.getLast h) := atI_last _ _
  rw [e] at this
  rw [this, List.getLastD_eq_getLast?, List.getLast?_eq_some_getLast h]
  rfl
theorem rv_ixTI {ns : List Int} (h0 : 0 ≤ k) (h1 : k < (ns.length : Int)) : RvR K (rIxX K) (tI ns) (.int k) (.int (ns.getD k.toNat 0)) := rv_ixT (atI_map (atI_int 0 h0 h1))
theorem rv_ixLI {ns : List Int} (h0 : 0 ≤ k) (h1 : k < (ns.length : Int)) : RvR K (rIxX K) (lI ns) (.int k) (.int (ns.getD k.toNat 0)) := rv_ixL (atI_map (atI_int 0 h0 h1))
theorem rv_isB : RvR K rIsB (.bool a) (.bool b) (.bool (decide (a = b))) := fun x y H r1 r2 Q q => ⟨a, b, r1.bool, r2.bool, q _ H (Ex.refl H) (.inl (.bl _))⟩
theorem rv_notB : RvR K rNotB (.bool a) (.bool b) (.bool (!decide (a = b))) := fun x y H r1 r2 Q q => ⟨a, b, r1.bool, r2.bool, q _ H (Ex.refl H) (.inl (.bl _))⟩
/-! equality -/
theorem shaped_int : SeqAt.shaped (.int i) = true := rfl
theorem lay_ints : ∀ ns : List Int, PyData.canLayAll0 (ns.map PyData.int) = true
  | [] => rfl
  | n :: ns => by
    rw [List.map_cons, PyData.canLayAll0, lay_ints ns]
    rfl
theorem shaped_tI (ns : List Int) : SeqAt.shaped (tI ns) = true := by
  unfold SeqAt.shaped
  have h1 : PyData.canLay0 (tI ns) = true := lay_ints ns
  have h2 : PyData.depth (tI ns) ≤ 64 := by
    unfold PyData.depth
    rw [depth_ints]
    decide
  rw [h1, decide_eq_true h2]
  rfl
theorem eqvAll_ints : ∀ xs ys : List Int, PyData.eqvAll (xs.map .int) (ys.map .int) = decide (xs = ys)
  | [], [] => rfl
  | [], _ :: _ => rfl
  | _ :: _, [] => rfl
  | x :: xs, y :: ys => by
    rw [List.map_cons, List.map_cons, PyData.eqvAll, eqvAll_ints xs ys]
    show ((x == y) && decide (xs = ys)) = decide (x :: xs = y :: ys)
    by_cases h : x = y
    · subst h; simp
    · have : ¬ (x :: xs = y :: ys) := fun z => h (List.cons.inj z).1
      rw [decide_eq_false this, beq_eq_false_iff_ne.mpr h]
      rfl
theorem eqv_tI (xs ys : List Int) : PyData.eqv (tI xs) (tI ys) = decide (xs = ys) := eqvAll_ints xs ys
theorem eqv_lI (xs ys : List Int) : PyData.eqv (lI xs) (lI ys) = decide (xs = ys) := eqvAll_ints xs ys
theorem eqv_int : PyData.eqv (.int i) (.int j) = decide (i = j) := by
  show (i == j) = _
  by_cases h : i = j
  · subst h; simp
  · rw [decide_eq_false h, beq_eq_false_iff_ne.mpr h]
theorem rv_eqI : RvR K (rEqD K) (.int i) (.int j) (.bool (decide (i = j))) := fun x y H r1 r2 Q q => ⟨_, _, (r1.dp rfl).l, (r2.dp rfl).l, rfl, rfl, by rw [eqv_int]; exact q _ H (Ex.refl H) (.inl (.bl _))⟩
theorem rv_neI : RvR K (rNeD K) (.int i) (.int j) (.bool (!decide (i = j))) := fun x y H r1 r2 Q q => ⟨_, _, (r1.dp rfl).l, (r2.dp rfl).l, rfl, rfl, by rw [eqv_int]; exact q _ H (Ex.refl H) (.inl (.bl _))⟩
theorem rv_eqB : RvR K (rEqD K) (.bool a) (.bool b) (.bool (a == b)) := fun x y H r1 r2 Q q => ⟨_, _, (r1.dp rfl).l, (r2.dp rfl).l, rfl, rfl, q _ H (Ex.refl H) (.inl (.bl _))⟩
theorem rv_neB : RvR K (rNeD K) (.bool a) (.bool b) (.bool (!(a == b))) := fun x y H r1 r2 Q q => ⟨_, _, (r1.dp rfl).l, (r2.dp rfl).l, rfl, rfl, q _ H (Ex.refl H) (.inl (.bl _))⟩
theorem rv_eqS {x y : Str} (hx : SeqAt.shaped (.str x) = true) (hy : SeqAt.shaped (.str y) = true) : RvR K (rEqD K) (.str x) (.str y) (.bool (x == y)) := fun _ _ H r1 r2 Q q => ⟨_, _, (r1.dp rfl).l, (r2.dp rfl).l, hx, hy, q _ H (Ex.refl H) (.inl (.bl _))⟩
theorem rv_neS {x y : Str} (hx : SeqAt.shaped (.str x) = true) (hy : SeqAt.shaped (.str y) = true) : RvR K (rNeD K) (.str x) (.str y) (.bool (!(x == y))) := fun _ _ H r1 r2 Q q => ⟨_, _, (r1.dp rfl).l, (r2.dp rfl).l, hx, hy, q _ H (Ex.refl H) (.inl (.bl _))⟩
theorem rv_eqT {xs ys : List Int} : RvR K (rEqD K) (tI xs) (tI ys) (.bool (decide (xs = ys))) := fun _ _ H r1 r2 Q q => ⟨_, _, (r1.dp rfl).l, (r2.dp rfl).l, shaped_tI xs, shaped_tI ys, by rw [eqv_tI]; exact q _ H (Ex.refl H) (.inl (.bl _))⟩
theorem rv_neT {xs ys : List Int} : RvR K (rNeD K) (tI xs) (tI ys) (.bool (!decide (xs = ys))) := fun _ _ H r1 r2 Q q => ⟨_, _, (r1.dp rfl).l, (r2.dp rfl).l, shaped_tI xs, shaped_tI ys, by rw [eqv_tI]; exact q _ H (Ex.refl H) (.inl (.bl _))⟩
theorem rv_eqLI {xs ys : List Int} : RvR K (rEqD K) (lI xs) (lI ys) (.bool (decide (xs = ys))) := fun _ _ H r1 r2 Q q => ⟨_, _, (r1.dp rfl).l, (r2.dp rfl).l, shaped_tI xs, shaped_tI ys, by rw [eqv_lI]; exact q _ H (Ex.refl H) (.inl (.bl _))⟩
theorem rv_neLI {xs ys : List Int} : RvR K (rNeD K) (lI xs) (lI ys) (.bool (!decide (xs = ys))) := fun _ _ H r1 r2 Q q => ⟨_, _, (r1.dp rfl).l, (r2.dp rfl).l, shaped_tI xs, shaped_tI ys, by rw [eqv_lI]; exact q _ H (Ex.refl H) (.inl (.bl _))⟩
theorem rv_eqG (nd : isDict d = false) (ne : isDict e = false) (sd : SeqAt.shaped d = true) (se : SeqAt.shaped e = true) : RvR K (rEqD K) d e (.bool (PyData.eqv d e)) := fun _ _ H r1 r2 Q q => ⟨_, _, (r1.dp nd).l, (r2.dp ne).l, sd, se, q _ H (Ex.refl H) (.inl (.bl _))⟩
theorem rv_neG (nd : isDict d = false) (ne : isDict e = false) (sd : SeqAt.shaped d = true) (se : SeqAt.shaped e = true) : RvR K (rNeD K) d e (.bool (!PyData.eqv d e)) := fun _ _ H r1 r2 Q q => ⟨_, _, (r1.dp nd).l, (r2.dp ne).l, sd, se, q _ H (Ex.refl H) (.inl (.bl _))⟩
theorem any_eqv_ints (k : Int) (ns : List Int) : ((ns.map PyData.int).any fun z => PyData.eqv z (.int k)) = decide (k ∈ ns) := by
  induction ns with
  | nil => simp
  | cons n ns ih =>
    rw [List.map_cons, List.any_cons, ih, eqv_int]
    by_cases h : n = k
    · subst h; simp
    · have h' : ¬ k = n := fun z => h z.symm
      simp [h, h', List.mem_cons]
theorem rv_inLI {ns : List Int} : RvR K (rInA K false) (.int k) (lI ns) (.bool (decide (k ∈ ns))) := fun _ _ H r1 r2 Q q => ⟨_, _, r1.dp rfl, .inl (r2.dp rfl), rfl, shaped_tI ns, by rw [any_eqv_ints]; exact q _ H (Ex.refl H) (.inl (.bl _))⟩
theorem rv_inTI {ns : List Int} : RvR K (rInA K false) (.int k) (tI ns) (.bool (decide (k ∈ ns))) := fun _ _ H r1 r2 Q q => ⟨_, _, r1.dp rfl, .inr (r2.dp rfl), rfl, shaped_tI ns, by rw [any_eqv_ints]; exact q _ H (Ex.refl H) (.inl (.bl _))⟩
theorem rv_niLI {ns : List Int} : RvR K (rInA K true) (.int k) (lI ns) (.bool (!decide (k ∈ ns))) := fun _ _ H r1 r2 Q q => ⟨_, _, r1.dp rfl, .inl (r2.dp rfl), rfl, shaped_tI ns, by rw [any_eqv_ints]; exact q _ H (Ex.refl H) (.inl (.bl _))⟩
theorem rv_niTI {ns : List Int} : RvR K (rInA K true) (.int k) (tI ns) (.bool (!decide (k ∈ ns))) := fun _ _ H r1 r2 Q q => ⟨_, _, r1.dp rfl, .inr (r2.dp rfl), rfl, shaped_tI ns, by rw [any_eqv_ints]; exact q _ H (Ex.refl H) (.inl (.bl _))⟩
theorem rv_inG (c : ds = es) (nd : isDict d = false) (sd : SeqAt.shaped d = true) (se : SeqAt.shaped (.list ds) = true) : RvR K (rInA K false) d (.tuple ds) (.bool (ds.any fun z => PyData.eqv z d)) := fun _ _ H r1 r2 Q q => ⟨_, _, r1.dp nd, .inr (r2.dp rfl), sd, se, q _ H (Ex.refl H) (.inl (.bl _))⟩
theorem rv_niG (nd : isDict d = false) (sd : SeqAt.shaped d = true) (se : SeqAt.shaped (.list ds) = true) : RvR K (rInA K true) d (.tuple ds) (.bool (!ds.any fun z => PyData.eqv z d)) := fun _ _ H r1 r2 Q q => ⟨_, _, r1.dp nd, .inr (r2.dp rfl), sd, se, q _ H (Ex.refl H) (.inl (.bl _))⟩
theorem lay_tIs : ∀ xss : List (List Int), PyData.canLayAll0 (xss.map tI) = true
  | [] => rfl
  | xs :: xss => by
    rw [List.map_cons, PyData.canLayAll0, lay_tIs xss]
    show (PyData.canLayAll0 (xs.map .int) && true) = true
    rw [lay_ints]
    rfl
theorem depth_tIs : ∀ xss : List (List Int), PyData.depthAll (xss.map tI) ≤ 1
  | [] => Nat.zero_le _
  | xs :: xss => by
    rw [List.map_cons, PyData.depthAll]
    have := depth_tIs xss
    have h : PyData.depth (tI xs) = 1 := by unfold PyData.depth; rw [depth_ints]
    omega
theorem shaped_tT (xss : List (List Int)) : SeqAt.shaped (.list (xss.map tI)) = true := by
  unfold SeqAt.shaped
  have h1 : PyData.canLay0 (.list (xss.map tI)) = true := lay_tIs xss
  have h2 : PyData.depth (.list (xss.map tI)) ≤ 64 := by
    unfold PyData.depth
    have := depth_tIs xss
    omega
  rw [h1, decide_eq_true h2]
  rfl
theorem any_eqv_tIs (ys : List Int) (xss : List (List Int)) : ((xss.map tI).any fun z => PyData.eqv z (tI ys)) = decide (ys ∈ xss) := by
  induction xss with
  | nil => simp
  | cons xs xss ih =>
    rw [List.map_cons, List.any_cons, ih, eqv_tI]
    by_cases h : xs = ys
    · subst h; simp
    · have h' : ¬ ys = xs := fun z => h z.symm
      simp [h, h', List.mem_cons]
theorem rv_niTT {xss : List (List Int)} {ys : List Int} : RvR K (rInA K true) (tI ys) (.tuple (xss.map tI)) (.bool (!decide (ys ∈ xss))) := fun _ _ H r1 r2 Q q => ⟨_, _, r1.dp rfl, .inr (r2.dp rfl), shaped_tI ys, shaped_tT xss, by rw [any_eqv_tIs]; exact q _ H (Ex.refl H) (.inl (.bl _))⟩
theorem rv_inTT {xss : List (List Int)} {ys : List Int} : RvR K (rInA K false) (tI ys) (.tuple (xss.map tI)) (.bool (decide (ys ∈ xss))) := fun _ _ H r1 r2 Q q => ⟨_, _, r1.dp rfl, .inr (r2.dp rfl), shaped_tI ys, shaped_tT xss, by rw [any_eqv_tIs]; exact q _ H (Ex.refl H) (.inl (.bl _))⟩
/-! calls of built-ins, by values -/
def RcR (K : PySem.W.Frag) (r : List V → Hp → VK → Prop) (ds : List D) (d : D) : Prop := ∀ vs H, RpAll K H vs ds → ∀ Q : VK, (∀ v H', Ex H H' → Rp K H' v d → Q v H') → r vs H Q
theorem ev_cbR {r : List V → Hp → VK → Prop} {t : TA} (h : EvAs K t Γ ds) (hr : RcR K r ds d) : EvR K (tCB r t) Γ d := ev_cb h hr
theorem rc_abs : RcR K rAbs [.int i] (.int (if i < 0 then -i else i)) := fun vs H r Q q => by
  obtain ⟨v, rfl, r1⟩ := rp1 r
  exact ⟨i, by rw [r1.int], q _ H (Ex.refl H) (.inl (.int _))⟩
theorem rc_max : RcR K rMax2' [.int i, .int j] (.int (if j > i then j else i)) := fun vs H r Q q => by
  obtain ⟨v, w, rfl, r1, r2⟩ := rp2 r
  exact ⟨i, j, by rw [r1.int, r2.int], q _ H (Ex.refl H) (.inl (.int _))⟩
theorem rc_min : RcR K (rMinX K) [.int i, .int j] (.int (if j < i then j else i)) := fun vs H r Q q => by
  obtain ⟨v, w, rfl, r1, r2⟩ := rp2 r
  exact .inl ⟨i, j, by rw [r1.int, r2.int], q _ H (Ex.refl H) (.inl (.int _))⟩
theorem rc_minT {n : Int} {ns : List Int} : RcR K (rMinX K) [tI (n :: ns)] (.int (ns.foldl min n)) := fun vs H r Q q => by
  obtain ⟨v, rfl, r1⟩ := rp1 r
  obtain ⟨a, ws, rfl, hs, hd⟩ := r1.tup
  rw [DpAll.ints hd] at hs
  exact .inr ⟨a, n, ns, rfl, hs, q _ H (Ex.refl H) (.inl (.int _))⟩
theorem rc_intI : RcR K rInt1 [.int i] (.int i) := fun vs H r Q q => by
  obtain ⟨v, rfl, r1⟩ := rp1 r
  exact .inl ⟨i, by rw [r1.int], q _ H (Ex.refl H) (.inl (.int _))⟩
theorem rc_intB : RcR K rInt1 [.bool a] (.int (if a then 1 else 0)) := fun vs H r Q q => by
  obtain ⟨v, rfl, r1⟩ := rp1 r
  exact .inr ⟨a, by rw [r1.bool], q _ H (Ex.refl H) (.inl (.int _))⟩
theorem rc_lenT : RcR K (rLenS' K) [.tuple ds] (.int (ds.length : Int)) := fun vs H r Q q => by
  obtain ⟨v, rfl, r1⟩ := rp1 r
  obtain ⟨a, ws, rfl, hs, hd⟩ := r1.tup
  exact ⟨a, ws, rfl, .inr hs, q _ H (Ex.refl H) (.inl (by rw [DpAll.length hd]; exact .int _))⟩
theorem rc_lenL : RcR K (rLenS' K) [.list ds] (.int (ds.length : Int)) := fun vs H r Q q => by
  obtain ⟨v, rfl, r1⟩ := rp1 r
  obtain ⟨a, ws, rfl, hs, hd⟩ := r1.lst
  exact ⟨a, ws, rfl, .inl hs, q _ H (Ex.refl H) (.inl (by rw [DpAll.length hd]; exact .int _))⟩
theorem rc_lenTI {ns : List Int} : RcR K (rLenS' K) [tI ns] (.int (ns.length : Int)) := by
  have := rc_lenT (K := K) (ds := ns.map .int)
  rw [List.length_map] at this
  exact this
theorem rc_lenLI {ns : List Int} : RcR K (rLenS' K) [lI ns] (.int (ns.length : Int)) := by
  have := rc_lenL (K := K) (ds := ns.map .int)
  rw [List.length_map] at this
  exact this
theorem rc_tupL : RcR K (rTupOf K) [.list ds] (.tuple ds) := fun vs H r Q q => by
  obtain ⟨v, rfl, r1⟩ := rp1 r
  obtain ⟨a, ws, rfl, hs, hd⟩ := r1.lst
  exact ⟨a, ws, rfl, .inl ⟨hs, fun l hl => q _ _ (Ex.new hl) (.inl (.tup (st_of upd_same) (DpAll.mono (Ex.new hl) hd)))⟩⟩
theorem rc_tupT : RcR K (rTupOf K) [.tuple ds] (.tuple ds) := fun vs H r Q q => by
  obtain ⟨v, rfl, r1⟩ := rp1 r
  obtain ⟨a, ws, rfl, hs, hd⟩ := r1.tup
  exact ⟨a, ws, rfl, .inr ⟨hs, q _ H (Ex.refl H) (.inl (.tup hs hd))⟩⟩
theorem rc_sum {ns : List Int} : RcR K (rSum K) [lI ns] (.int ns.sum) := fun vs H r Q q => by
  obtain ⟨v, rfl, r1⟩ := rp1 r
  obtain ⟨a, ws, rfl, hs, hd⟩ := r1.lst
  rw [DpAll.ints hd] at hs
  exact ⟨a, ns, rfl, hs, q _ H (Ex.refl H) (.inl (.int _))⟩
theorem rc_all {bs : List Bool} : RcR K (rAll K) [.list (bs.map .bool)] (.bool (bs.all id)) := fun vs H r Q q => by
  obtain ⟨v, rfl, r1⟩ := rp1 r
  obtain ⟨a, ws, rfl, hs, hd⟩ := r1.lst
  rw [DpAll.bls hd] at hs
  exact ⟨a, bs, rfl, hs, q _ H (Ex.refl H) (.inl (.bl _))⟩
/-! one place -/
def RuR (K : PySem.W.Frag) (r : V → Hp → VK → Prop) (d e : D) : Prop := ∀ x H, Rp K H x d → ∀ Q : VK, (∀ v H', Ex H H' → Rp K H' v e → Q v H') → r x H Q
theorem ev_un {r : V → Hp → VK → Prop} (ha : EvR K ta Γ d) (hr : RuR K r d e) : EvR K (tUn r ta) Γ e := fun σ H E Q q => ha σ H E _ fun v H1 e1 r1 => hr v H1 r1 Q fun w H2 e2 r2 => q w H2 (e1.trans e2) r2
theorem ru_neg : RuR K (rU fun i => .int (-i)) (.int i) (.int (-i)) := fun x H r Q q => ⟨i, r.int, q _ H (Ex.refl H) (.inl (.int _))⟩
theorem ev_opR {r : R2} (ha : EvR K ta Γ d) (hb : EvR K tb Γ e) (hr : RvR K r d e f) : EvR K (tOp r ta tb) Γ f := ev_op ha hb hr
/-! a sequence backwards, cut: by what it is -/
inductive RevD : D → D → Prop
  | lst (ds : List D) : RevD (.list ds) (.list ds.reverse)
  | tup (ds : List D) : RevD (.tuple ds) (.tuple ds.reverse)
theorem ev_revD (ha : EvR K te Γ d) (h : RevD d e) : EvR K (tRevX K te) Γ e := by
  cases h with
  | lst ds => exact (ef_revX ha).r
  | tup ds => exact ev_revX ha
inductive SlD (lo hi : Option Int) : D → D → Prop
  | lst (ds : List D) : SlD lo hi (.list ds) (.list (cutD ds lo hi))
  | tup (ds : List D) : SlD lo hi (.tuple ds) (.tuple (cutD ds lo hi))
theorem ev_slD {tl th : TO} {lo hi : Option Int} (ha : EvR K te Γ d) (hl : EvP K tl Γ lo) (hh : EvP K th Γ hi) (h : SlD lo hi d e) : EvR K (tSl (rSlX K) te tl th) Γ e := by
  cases h with
  | lst ds => exact (ef_slX_L ha hl hh).r
  | tup ds => exact ev_slX_T ha hl hh
theorem ev_callF {F : List D → List D → Prop} {t : TA} {E : XK} (h : EvAs K t Γ ds) (hF : F ds es) : EvR K (tCall (spF K F) [] E t) Γ (.list es) := (ef_call h hF).r
theorem rev_ints (ns : List Int) : (ns.map PyData.int).reverse = ns.reverse.map .int := List.map_reverse.symm
theorem cut_ints (ns : List Int) (k : Nat) : cutD (ns.map PyData.int) (some (k : Int)) none = (ns.drop k).map .int := by
  rw [cutD_from, List.map_drop]
def okT (ds : List D) : Bool := noDs ds && decide (ds.length ≤ 100000)
theorem ev_tupR {ta : TA} (h : EvAs K ta Γ ds) (n : okT ds = true) : EvR K (tTup ta) Γ (.tuple ds) := by
  simp only [okT, Bool.and_eq_true, decide_eq_true_eq] at n
  exact ev_tup h n.1 n.2
theorem ef_lstR {ta : TA} (h : EvAs K ta Γ ds) (n : okT ds = true) : EvF K (tLst ta) Γ ds := by
  simp only [okT, Bool.and_eq_true, decide_eq_true_eq] at n
  exact ef_lst h n.1 n.2
def IsiD (d : D) (T : String) (b : Bool) : Prop := isDict d = false ∧ d ≠ .none ∧ kitB (tyD d) T = some b
theorem ev_isiR {T : String} (ha : EvR K ta Γ d) (h : IsiD d T b) : EvR K (tCB (rIsi K) (tCons ta (tCons (tC (.ty T)) tNil))) Γ (.bool b) := ev_isi ha h.1 h.2.1 h.2.2
theorem isi_int : IsiD (.int i) "int" true := ⟨rfl, (by intro z; cases z), show kitB "int" "int" = some true by decide +kernel⟩
theorem isi_int_bool : IsiD (.int i) "bool" false := ⟨rfl, (by intro z; cases z), show kitB "int" "bool" = some false by decide +kernel⟩
theorem isi_tup : IsiD (.tuple ds) "tuple" true := ⟨rfl, (by intro z; cases z), show kitB "tuple" "tuple" = some true by decide +kernel⟩
theorem isi_str {x : Str} : IsiD (.str x) "str" true := ⟨rfl, (by intro z; cases z), show kitB "str" "str" = some true by decide +kernel⟩
/-- a chain of two comparisons of ints -/
theorem ev_chain {r r' : R2} {tc : TE} (ha : EvR K ta Γ d) (hb : EvR K tb Γ e) (hr : RvR K r d e (.bool a)) (hc : a = true → EvR K tc Γ f) (hr' : a = true → RvR K r' e f (.bool b)) : EvR K (tChain r r' ta tb tc) Γ (.bool (a && b)) := fun σ H E Q q =>
  ha σ H E _ fun x H1 e1 r1 => hb σ H1 (E.mono e1) _ fun y H2 e2 r2 => hr x y H2 (r1.mono e2) r2 _ fun z H3 e3 r3 => ⟨a, r3.bool, by
    have E3 := E.mono ((e1.trans e2).trans e3)
    cases a with
    | true =>
      refine iteT (hc rfl σ H3 E3 _ fun w H4 e4 r4 => hr' rfl y w H4 (r2.mono (e3.trans e4)) r4 Q fun v H5 e5 r5 => q v H5 ((((e1.trans e2).trans e3).trans e4).trans e5) r5)
    | false => exact iteF (q _ H3 ((e1.trans e2).trans e3) (.inl (.bl _)))⟩
end
/-! the rules with the written part named -/
section
variable {X : Cx} (K : PySem.W.Frag)
theorem op_addK (h : X.K = K) : OpR X (binaryOp .Add) (rAddX K) := h ▸ op_addX
theorem op_eqK (h : X.K = K) (hu : X.A.units + 64 < cLine) : OpR X (compareOp .Eq) (rEqD K) := h ▸ op_eqD hu
theorem op_neK (h : X.K = K) (hu : X.A.units + 64 < cLine) : OpR X (compareOp .NotEq) (rNeD K) := h ▸ op_neD hu
theorem op_inK (h : X.K = K) (hu : X.A.units + 65 < cLine) : OpR X (compareOp .In) (rInA K false) := h ▸ op_inA hu
theorem op_niK (h : X.K = K) (hu : X.A.units + 65 < cLine) : OpR X (compareOp .NotIn) (rInA K true) := h ▸ op_notInA hu
theorem ix_K (h : X.K = K) : IxR X (rIxX K) := h ▸ ix_X
theorem sl_K (h : X.K = K) : SlR X (rSlX K) := h ▸ sl_X
theorem len_K (h : X.K = K) : CallR X (.builtin "len") (rLenS' K) := h ▸ call_len_seq
theorem isi_K (h : X.K = K) : CallR X (.builtin "isinstance") (rIsi K) := h ▸ call_isi
theorem min_K (h : X.K = K) (hc : X.calm = true) (hu : X.A.units + 65 < cLine) : CallR X (.builtin "min") (rMinX K) := h ▸ cr_minX hc hu
theorem sum_K (h : X.K = K) (hc : X.calm = true) : CallR X (.builtin "sum") (rSum K) := h ▸ cr_sum hc
theorem all_K (h : X.K = K) (hc : X.calm = true) : CallR X (.builtin "all") (rAll K) := h ▸ cr_all hc
theorem setOf_K {w : World} (h : X.K = K) (h2 : X.w = w) (hc : X.calm = true) : CallR X (.type "set") (rSetOf K w) := h ▸ h2 ▸ cr_setOf hc
theorem sortedSet_K {w : World} (h2 : X.w = w) (hc : X.calm = true) : CallR X (.builtin "sorted") (rSortedSet w) := h2 ▸ cr_sortedSet hc
theorem tupOf_K (h : X.K = K) : CallR X (.type "tuple") (rTupOf K) := h ▸ cr_tupOf
theorem listOf_K (h : X.K = K) : CallR X (.type "list") (rListOf K) := h ▸ call_list_of
theorem seq_K (h : X.K = K) {tg l : Expr} {tl : TE} (hl : PE X l tl) : PI X tg l (iSeq K tl) := h ▸ pi_seq hl
theorem rev_K (h : X.K = K) {e : Expr} {te : TE} {k : Nat} {p1 p2 p3 pos : Pos} (he : PE X e te) : PE X (.Subscript e (.Slice none none (some (.UnaryOp .USub (.Constant (.int 1) k p1) p2)) p3) pos) (tRevX K te) := h ▸ pe_revX he
theorem tup_K (h : X.K = K) {es : List Expr} {k : Nat} {t : TGs} {n : Nat} {pos : Pos} (hc : X.calm = true) (ht : PGs X es t) (hn : (assignEach es X.env).length = n := by rfl) (hst : (assignEach es X.env).findIdx? (·.1) = none := by rfl) : PG X (.Tuple es k pos) (gTup K n t) := h ▸ pg_tup hc ht hn hst
end
end KW

set_option Elab.async false
set_option linter.all false
set_option maxRecDepth 100000
set_option maxHeartbeats 8000000
/-! a pool of numbers with its place: what is drawn from it -/
namespace KW
open PySem PySem.Spec PyProof.Rows L2 Evl
def PoolAt (H : Hp) (l c : Addr) (at' : Int) : Prop := ∃ (r : Addr) (ns : List Int), H l = some (.lst [.ref r, .ref c]) ∧ H r = some (.lst (ns.map .int)) ∧ H c = some (.lst [.int at']) ∧ l ≠ c ∧ r ≠ c ∧ 0 ≤ at' ∧ 0 < ns.length ∧ ns.length ≤ 80 ∧ ∀ x ∈ ns, 0 ≤ x ∧ x < (4096 : Int)
/-- hands back some data for which Fr holds, and turns the pool's place on -/
def spX (K : PySem.W.Frag) (ok : List D → Prop) (Fr : List D → D → Prop) (cost : Nat) : Sp := fun vs H Q _ => ∃ l c at' ws ds, vs = .ref l :: ws ∧ PoolAt H l c at' ∧ at' + cost ≤ 1000000 ∧ RpAll K H ws ds ∧ ok ds ∧
  ∀ d v H' a2, Fr ds d → noL d = true → Dp K H' v d → (∀ a o, a ≠ c → H a = some o → H' a = some o) → H' c = some (.lst [.int a2]) → 0 ≤ a2 → a2 ≤ at' + cost → Q v H'
/-- how many cells are taken -/
abbrev poolN (len : Int) : Int := if (if len > 1 then len else 1) < 4 then (if len > 1 then len else 1) else 4
def spPool (K : PySem.W.Frag) : Sp := fun vs H Q _ => ∃ ns : List Int, RpAll K H vs [lI ns] ∧ ns.length ≤ 1000 ∧ ∀ (l r c : Addr) (ms : List Int) (H' : Hp), H l = none → H r = none → H c = none → l ≠ c → r ≠ c → Ex H H' → H' l = some (.lst [.ref r, .ref c]) → H' r = some (.lst (ms.map .int)) → H' c = some (.lst [.int 0]) →
  0 < ms.length → ms.length ≤ 80 → (∀ x ∈ ms, 0 ≤ x ∧ x < (4096 : Int)) → Q (.ref l) H'
/-- what evaluates to some data, the state turned -/
def Xv (K : PySem.W.Frag) (te : TE) (S S' : SS) (R : D → Prop) : Prop := ∀ B σ H, SB K B H σ S → ∀ Q : VK, (∀ d v B' H', Ex B B' → R d → noL d = true → Rp K B' v d → SB K B' H' σ S' → Q v H') → te σ H Q
section
variable {K : PySem.W.Frag} {S S1 S2 : SS} {ta tb te tn : TE} {R R1 R2 : D → Prop} {ip m cost : Nat}
/-- the pool's slot is turned on -/
theorem SA.turn {Hm H H' : Hp} {σ : L2.St} {A : Nat → List Addr} {l c : Addr} {a2 : Int} (sa : SA K Hm H σ S A) (hs : S[ip]? = some (.pl l c m)) (hv : σ[ip]? = some (some (.ref l))) (ho : Own K (.pl l c m) (.ref l) Hm H (A ip)) (hA : A ip = [c])
    (x : ∀ a o, a ≠ c → H a = some o → H' a = some o) (hc : H' c = some (.lst [.int a2])) (h0 : 0 ≤ a2) (h1 : a2 ≤ (m : Int) + cost) : SA K (strip H' A) H' σ (S.set ip (.pl l c (m + cost))) A ∧ Ex Hm (strip H' A) := by
  have hcA : c ∈ A ip := by rw [hA]; simp
  have ex : Ex Hm (strip H' A) := fun a o q => by
    have na : ∀ i, a ∉ A i := fun i hi => by rw [sa.out i a hi] at q; cases q
    have ne : a ≠ c := fun z => by subst z; exact na ip hcA
    rw [strip_out na]
    exact x a o ne (sa.ex a o q)
  refine ⟨⟨strip_ex, by simp [sa.len], fun k e q n => ?_, fun k q => ?_, sa.sep, fun k a ha => strip_in ha⟩, ex⟩
  · by_cases hk : ip = k
    · subst hk
      have hi : ip < S.length := (List.getElem?_eq_some_iff.mp hs).1
      rw [List.getElem?_set_self hi] at q
      cases q
      obtain ⟨r, ns, a0, e1, e2, g1, g2, g3, g4⟩ := ho
      exact ⟨.ref l, hv, r, ns, a2, rfl, hA, ex _ _ g1, ex _ _ g2, hc, h0, by simpa using h1, g4.2.2⟩
    · rw [List.getElem?_set_ne hk] at q
      obtain ⟨v', w1, w2⟩ := sa.own k e q n
      refine ⟨v', w1, w2.kept ex fun a ha o z => x a o ?_ z⟩
      exact fun z => by subst z; exact sa.sep ip k a hk hcA ha
  · by_cases hk : ip = k
    · subst hk
      have hi : ip < S.length := (List.getElem?_eq_some_iff.mp hs).1
      rw [List.getElem?_set_self hi] at q
      rcases q with q | q <;> cases q
    · rw [List.getElem?_set_ne hk] at q
      exact sa.empty k q
theorem xv_call {l c : Addr} {ok : List D → Prop} {Fr : List D → D → Prop} {t : TA} {ds : List D} (hs : S[ip]? = some (.pl l c m)) (h : EvAs K t (gm S) ds) (ho : ok ds) (hm : m + cost ≤ 1000000) : Xv K (tCall (spX K ok Fr cost) [] E0 (tCons (tVar ip) t)) S (S.set ip (.pl l c (m + cost))) (Fr ds) := fun B σ H sb Q q => by
  obtain ⟨Hm, A, eB, sa⟩ := sb
  obtain ⟨v, hv, hown⟩ := sa.own ip _ hs (by intro z; cases z)
  obtain ⟨r, ns, at', rfl, hA, g1, g2, g3, g4, g5, g6, g7, g8⟩ := id hown
  refine ⟨_, hv, h σ H sa.env _ fun ws H1 e1 r1 => ?_⟩
  show spX K ok Fr cost (.ref l :: (ws ++ [])) H1 Q E0
  rw [List.append_nil]
  have sa1 := sa.grow e1
  have hown1 : Own K (.pl l c m) (.ref l) (strip H1 A) H1 (A ip) := hown.kept (sa.strip_of e1) fun a _ o z => e1 a o z
  have hcA : c ∈ A ip := by rw [hA]; simp
  have hc0 : Hm c = none := sa.out ip c hcA
  refine ⟨l, c, at', ws, ds, rfl, ⟨r, ns, e1 _ _ (sa.ex _ _ g1), e1 _ _ (sa.ex _ _ g2), e1 _ _ g3, ?_, ?_, g4, g6, g7, g8⟩, by omega, r1, ho, fun d v H' a2 hF n hd fr hc h1 h2 => ?_⟩
  · rintro rfl; rw [hc0] at g1; cases g1
  · rintro rfl; rw [hc0] at g2; cases g2
  · obtain ⟨sa2, ex2⟩ := sa1.turn (cost := cost) hs hv hown1 hA fr hc (by omega) (by omega)
    refine q d v _ H' ((eB.trans (sa.strip_of e1)).trans ex2) hF n ?_ ⟨_, A, Ex.refl _, sa2⟩
    exact Rp.mapT (sa2.sqT (Ex.refl H')) n (.inl hd)
theorem xv_add {a : Int} (h : Xv K tb S S1 R) (hR : ∀ d, R d → ∃ i, d = .int i) : Xv K (tOp (rAddX K) (tC (.int a)) tb) S S1 (fun d => ∃ i, R (.int i) ∧ d = .int (a + i)) := fun B σ H sb Q q => h B σ H sb _ fun d v B' H' e r n rp sb' => by
  obtain ⟨i, rfl⟩ := hR d r
  exact .inl ⟨a, i, rfl, rp.int, q _ _ B' H' e ⟨i, r, rfl⟩ rfl (.inl (.int _)) sb'⟩
/-- an item of a list that stands in a slot, at a drawn place -/
theorem xv_ix {iu : Nat} {ds : List D} (hu : S[iu]? = some (.im (.list ds))) (hd : noLs ds = true) (h : Xv K tb S S1 R) (hR : ∀ d, R d → ∃ i : Nat, d = .int (i : Int) ∧ i < ds.length) : Xv K (tOp (rIxX K) (tVar iu) tb) S S1 (fun d => ∃ i : Nat, R (.int (i : Int)) ∧ ds[i]? = some d) := fun B σ H sb Q q => by
  obtain ⟨Hm, A, eB, sa⟩ := sb
  obtain ⟨v, hv, hown⟩ := sa.own iu _ hu (by intro z; cases z)
  obtain ⟨a, vs, rfl, hl, hda⟩ := hown.1.lst
  refine ⟨_, hv, h Hm σ H ⟨Hm, A, Ex.refl _, sa⟩ _ fun d w B' H' e r n rp sb' => ?_⟩
  obtain ⟨i, rfl, hi⟩ := hR d r
  have hl' : SqL K B' a vs := ex_l e hl
  have hda' := DpAll.mono e hda
  obtain ⟨x, h1, h2⟩ := DpAll.get hda' (List.getElem?_eq_getElem hi)
  have nx : noL ds[i] = true := noLs_all.mp hd _ (List.getElem_mem hi)
  exact .inl ⟨a, vs, i, x, rfl, rp.int, ex_l sb'.ex hl', atI_nat h1, q ds[i] x B' H' (eB.trans e) ⟨i, r, List.getElem?_eq_getElem hi⟩ nx (.inl h2) sb'⟩
theorem Xv.pure {d : D} (h : EvR K te (gm S) d) (n : noL d = true) : Xv K te S S (fun e => e = d) := fun B σ H sb Q q => h σ H sb.env _ fun v H1 e1 r1 => by
  obtain ⟨Hm, A, eB, sa⟩ := sb
  exact q d v _ H1 (eB.trans (sa.strip_of e1)) rfl n (Rp.mapT (sa.sqT e1) n r1) ⟨_, A, Ex.refl _, sa.grow e1⟩
theorem Xv.imp (h : Xv K te S S1 R) (i : ∀ d, R d → R1 d) : Xv K te S S1 R1 := fun B σ H sb Q q => h B σ H sb Q fun d v B' H' e r n rp sb' => q d v B' H' e (i d r) n rp sb'
theorem SB.putB {B B' H : Hp} {σ : L2.St} {d : D} {v : V} {i : Nat} (sb : SB K B' H σ S) (r : Rp K B' v d) (hi : i < S.length) : SB K B' H (σ.set i (some v)) (S.set i (.im d)) := by
  obtain ⟨Hm, A, a, sa⟩ := sb
  exact ⟨_, _, a, sa.putIm hi (r.mono a)⟩
variable {B : Hp} {P : Post} {i j : Nat}
theorem run_setX (h : Xv K te S S1 R) (hi : i < S1.length) (k : ∀ d, R d → P.nx (S1.set i (.im d))) : Run K B (tAsg te (gName i)) S P := fun B' e D σ H sb nx rt bk ct =>
  h B' σ H sb _ fun d v B2 H1 eB r n rp sb1 => nx _ H1 _ ((sb1.putB (B := B) rp hi).mono eB) (k d r)
theorem run_par2X (h1 : Xv K ta S S1 R1) (h2 : Xv K tb S1 S2 R2) (hi : i < S2.length) (hj : j < S2.length) (k : ∀ d e, R1 d → R2 e → P.nx ((S2.set i (.im d)).set j (.im e))) : Run K B (tPar i j (tCons ta (tCons tb tNil))) S P := fun B' e D σ H sb nx rt bk ct =>
  h1 B' σ H sb _ fun d v B1 H1 e1 r1 n1 rp1 sb1 => h2 B1 σ H1 sb1 _ fun d2 w B2 H2 e2 r2 n2 rp2 sb2 => ⟨v, w, rfl, nx _ H2 _ (((sb2.putB (B := B) (rp1.mono e2) hi).putB (B := B) rp2 (by simpa using hj)).mono (e1.trans e2)) (k d d2 r1 r2)⟩
theorem run_tup2X (h1 : Xv K ta S S1 R1) (h2 : Xv K tb S1 S2 R2) (hi : i < S2.length) (hj : j < S2.length) (k : ∀ d e, R1 d → R2 e → P.nx ((S2.set i (.im d)).set j (.im e))) :
    Run K B (tAsg (tTup (tCons ta (tCons tb tNil))) (gTup K 2 (gCons (gName i) (gCons (gName j) gNil)))) S P := fun B' e D σ H sb nx rt bk ct =>
  h1 B' σ H sb _ fun d v B1 H1 e1 r1 n1 rp1 sb1 => h2 B1 σ H1 sb1 _ fun d2 w B2 H2 e2 r2 n2 rp2 sb2 => ⟨by show 2 ≤ sizeLine; decide, fun {its} p hp => by
    have sb3 := sb2.grow (Ex.new hp (o := XT its [v, w]))
    exact ⟨p, [v, w], rfl, (st_of upd_same).t (K := K), rfl, v, [w], rfl, w, [], rfl, rfl, nx _ _ _ (((sb3.putB (B := B) (rp1.mono e2) hi).putB (B := B) rp2 (by simpa using hj)).mono (e1.trans e2)) (k d d2 r1 r2)⟩⟩
/-- a tuple of data taken apart -/
theorem run_unpack {d : D} {g : TG} {js : List (Nat × D)} (h : EvR K te (gm S) d) (n : noL d = true) (hg : Tg K g d js) (hj : ∀ p ∈ js, p.1 < S.length) (k : P.nx (setS S js)) : Run K B (tAsg te g) S P := fun B' e D σ H sb nx rt bk ct =>
  h σ H sb.env _ fun v H1 e1 r1 => by
    obtain ⟨Hm, A, eB, sa⟩ := sb
    have sa1 := sa.grow e1
    obtain ⟨ws, jw, gq⟩ := hg v _ (Rp.mapT (sa.sqT e1) n r1)
    obtain ⟨A', sa2⟩ := jw.sa hj sa1
    exact gq H1 strip_ex σ _ (nx _ H1 _ ⟨_, A', eB.trans (sa.strip_of e1), sa2⟩ k)
/-- xs = xs + a new list -/
theorem run_cat {ds es : List D} (hs : S[i]? = some (.ow ds)) (h : EvF K tb (gm S) es) (n : noLs es = true) (hl : ds.length + es.length ≤ 100000) (k : P.nx (S.set i (.ow (ds ++ es)))) : Run K B (tAsg (tOp (rAddX K) (tVar i) tb) (gName i)) S P := fun B' e D σ H sb nx rt bk ct => by
  have sbk := sb
  obtain ⟨Hm, A, eB, sa⟩ := sb
  obtain ⟨v, hv, ho⟩ := sa.own i _ hs (by intro z; cases z)
  obtain ⟨l, vs, rfl, hA, hl', hd⟩ := ho
  have hiS : i < S.length := (List.getElem?_eq_some_iff.mp hs).1
  have hlA : l ∈ A i := by rw [hA]; simp
  refine ⟨_, hv, h σ H sa.env _ fun p ws H1 np e1 hp he => .inr (.inr ⟨l, p, vs, ws, rfl, rfl, e1 _ _ hl', hp, sz_of (by rw [DpAll.length hd, DpAll.length he]; exact hl), fun q hq => ?_⟩)⟩
  -- the slot is let go, then holds the new list
  have sa1 := sa.grow e1
  have hq0 : H q = none := fresh_back e1 hq
  have ex2 : Ex H (upd H1 q (.lst (vs ++ ws))) := e1.trans (Ex.new hq)
  have sa2 := sa.grow ex2
  have np' : ∀ k, q ∉ A k := fresh_own sa hq0
  let Hm2 := del (strip (upd H1 q (.lst (vs ++ ws))) A) q
  have npm : Hm q = none := by
    cases z : Hm q with
    | none => rfl
    | some o => rw [sa.ex q o z] at hq0; cases hq0
  have e3 : Ex Hm Hm2 := fun c o z => by
    have : c ≠ q := fun y => by subst y; rw [npm] at z; cases z
    show del _ q c = some o
    rw [del_ne this]
    exact sa.strip_of ex2 c o z
  have sa3 : SA K Hm2 (upd H1 q (.lst (vs ++ ws))) σ S A :=
    { ex := del_ex.trans strip_ex, len := sa.len, empty := sa.empty, sep := sa.sep
      own := fun k e' z m => by
        obtain ⟨v, x, y⟩ := sa.own k e' z m
        exact ⟨v, x, y.kept e3 fun c _ o z => ex2 c o z⟩
      out := fun k c hc => by
        show del _ q c = none
        by_cases z : c = q
        · subst z; exact del_same
        · rw [del_ne z]; exact strip_in hc }
  have ft : ∀ b ys, SqT K (upd H1 q (.lst (vs ++ ws))) b ys → SqT K Hm2 b ys := fun b ys z => del_sqT (D := q) (xs := vs ++ ws) (by rw [strip_out np']; exact upd_same) b ys (sa.sqT ex2 b ys z)
  have hes : DpAll K Hm2 ws es := DpAll.mapT ft es ws n (DpAll.mono (Ex.new hq) he)
  have sa4 := sa3.put (i := i) (v := .ref q) (e := .ow (ds ++ es)) (as := [q]) hiS ⟨q, vs ++ ws, rfl, rfl, upd_same, DpAll.append (DpAll.mono e3 hd) hes⟩ (fun k c _ hc hk => by
    rw [List.mem_singleton.mp hc] at hk
    exact np' k hk) (fun c hc => by rw [List.mem_singleton.mp hc]; exact del_same) (fun z => by cases z)
  exact nx _ _ _ ⟨_, _, eB.trans e3, sa4⟩ k
theorem run_setPool {ns : List Int} {ta : TA} (h : EvAs K ta (gm S) [lI ns]) (hn : ns.length ≤ 1000) (hi : i < S.length) (k : ∀ l c, P.nx (S.set i (.pl l c 0))) : Run K B (tAsg (tCall (spPool K) [] E0 ta) (gName i)) S P := fun B' e D σ H sb nx rt bk ct => by
  obtain ⟨Hm, A, eB, sa⟩ := sb
  refine h σ H sa.env _ fun vs H1 e1 r1 => ?_
  show spPool K (vs ++ []) H1 _ E0
  rw [List.append_nil]
  refine ⟨ns, r1, hn, fun l r c ms H' fl fr fc n1 n2 x hl hr hc h0 h80 hms => ?_⟩
  have ex2 := e1.trans x
  have al : ∀ k, l ∉ A k := fresh_own sa (fresh_back e1 fl)
  have ar : ∀ k, r ∉ A k := fresh_own sa (fresh_back e1 fr)
  have ac : ∀ k, c ∉ A k := fresh_own sa (fresh_back e1 fc)
  have hcm : Hm c = none := by
    cases z : Hm c with
    | none => rfl
    | some o => rw [e1 c o (sa.ex c o z)] at fc; cases fc
  have e3 : Ex Hm (del (strip H' A) c) := fun a o z => by
    have : a ≠ c := fun y => by subst y; rw [hcm] at z; cases z
    rw [del_ne this]
    exact sa.strip_of ex2 a o z
  have sa3 : SA K (del (strip H' A) c) H' σ S A :=
    { ex := del_ex.trans strip_ex, len := sa.len, empty := sa.empty, sep := sa.sep
      own := fun k e' z m => by
        obtain ⟨v, x, y⟩ := sa.own k e' z m
        exact ⟨v, x, y.kept e3 fun c _ o z => ex2 c o z⟩
      out := fun k a ha => by
        by_cases z : a = c
        · subst z; exact del_same
        · rw [del_ne z]; exact strip_in ha }
  have sa4 := sa3.put (i := i) (v := .ref l) (e := .pl l c 0) (as := [c]) hi ⟨r, ms, 0, rfl, rfl, by rw [del_ne n1, strip_out al]; exact hl, by rw [del_ne n2, strip_out ar]; exact hr, hc, Int.le_refl _, by omega, h0, h80, hms⟩
    (fun k a _ ha hk => by
      rw [List.mem_singleton.mp ha] at hk
      exact ac k hk) (fun a ha => by rw [List.mem_singleton.mp ha]; exact del_same) (fun z => by cases z)
  exact nx _ _ _ ⟨_, _, eB.trans e3, sa4⟩ (k l c)
end
end KW

set_option Elab.async false
set_option linter.all false
set_option maxRecDepth 100000
set_option maxHeartbeats 8000000
/-! t.index(k) of a tuple of ints; range downwards; t * 0, t * 1; xs.index, xs.pop of own lists; two items set at once from a call -/
namespace KW
open PySem PySem.Spec PyProof.Rows L2 Evl
section
variable {X : Cx}
def rTix (K : PySem.W.Frag) : V → List V → Hp → VK → Prop := fun x xs H Q => ∃ (p : Addr) (ns : List Int) (k : Int) (j : Nat), x = .ref p ∧ xs = [.int k] ∧ L2.SqT K H p (ns.map V.int) ∧ ns[j]? = some k ∧ (∀ m, m < j → ns[m]? ≠ some k) ∧ Q (.int (j : Nat)) H
theorem flat_ints (ys : List Int) : (ys.map V.int).all flatV = true := by
  rw [List.all_map]
  exact List.all_eq_true.mpr fun _ _ => rfl
theorem mt_tix : MtR X "tuple.index" (rTix X.K) := by
  intro pins s σ H x xs v us Q I rx rs h
  obtain ⟨p, ns, k, j, rfl, rfl, hq, hy, hno, q⟩ := h
  cases rx
  obtain ⟨u, rfl, t, rfl⟩ := vals1 rs
  obtain ⟨its, r, pl, hz⟩ := I.tuple hq
  obtain ⟨⟨c1, d1, e1, l1⟩, ho, hc, n, hd⟩ := pl
  simp only at hc hd
  subst hc hd
  have hl : its.toArray.size = ns.length := by rw [List.size_toArray, ← r.length, List.length_map]
  have jn : j < ns.length := (List.getElem?_eq_some_iff.mp hy).1
  have item : ∀ (m : Nat) (hm : m < its.toArray.size), ∃ y t', ns[m]? = some y ∧ its.toArray[m] = Value.int y t' := fun m hm => by
    have hm' : m < ns.length := by omega
    obtain ⟨w, hw, t', hw'⟩ := r.get (i := m) (x := .int ns[m]) (by simp [hm'])
    refine ⟨ns[m], t', List.getElem?_eq_getElem hm', ?_⟩
    have e := (List.getElem?_eq_some_iff.mp hw).2
    rw [← hw', ← e]
    simp
  refine call_meets PySem.F.slot_tuple_index ⟨_, ho, rfl⟩ PySem.F.entry_tuple_index (PySem.F.args_tuple_index_2 _ _) (TI.tuple_indexAt p its.toArray n d1 l1 (.int k t) (eqU (.int k)) j (by omega) ?hit ?no)
    ⟨ho, fun w hw => mem_eqAt (x := .int k) ⟨t, rfl⟩ rfl r (flat_ints ns) w (by simpa using hw), ⟨.int (j : Nat), H, I.tok _, ⟨_, rfl⟩, q⟩⟩
  case hit =>
    obtain ⟨y, t', h1, h2⟩ := item j (by omega)
    rw [hy] at h1
    cases h1
    rw [h2]
    show (k == k) = true
    exact beq_self_eq_true k
  case no =>
    intro m hm hmj
    obtain ⟨y, t', h1, h2⟩ := item m hm
    rw [h2]
    show (y == k) = false
    exact beq_eq_false_iff_ne.mpr fun e => hno m hmj (e ▸ h1)
/-- a method of a tuple whose object is known -/
def tBMT (r : V → List V → Hp → VK → Prop) (to : TE) (t : TA) : TE := fun σ H Q => to σ H fun x H1 => (∃ a its xs, x = .ref a ∧ H1 a = some (XT its xs)) ∧ t σ H1 fun xs H2 => r x xs H2 Q
theorem pe_bmT {o e : Expr} {es : List Expr} {to : TE} {t : TA} {name : Str} {apos cpos : Pos} {id : String} {r : V → List V → Hp → VK → Prop} (pa : PlainAttrs "tuple") (slot : Slot "tuple" name id) (hty : typeOf (.builtin id) = pure (.type "method_descriptor")) (hm : MtR X id r) (ho : PE X o to) (ha : PA X (e :: es) t)
    (hbase : attributeBase o name X.env (eval o X.env) = eval o X.env := by rfl)
    (hfew : ((backTo cpos (starEach (e :: es) X.env)).all (fun x => !x.1) && (backToKw cpos (keywordEach [] X.env)).all (fun x => x.1.isSome)
      && decide ((e :: es).length + ([] : List Keyword).length + (if ([] : List Keyword).isEmpty then 0 else 1) < 30)) = true := by rfl)
    (hline : (apos.endLine == cpos.line) = true := by rfl) (hs : starEach (e :: es) X.env = (false, eval e X.env) :: starEach es X.env := by rfl) (hplain : (backTo cpos (starEach es X.env)).any (·.1) = false := by rfl) :
    PE X (.Call (.Attribute o name apos) (e :: es) [] cpos) (tBMT r to t) := by
  refine ⟨fun pins s σ H Q I h => ?_⟩
  refine wpAny_Call_method_late hbase hfew hline rfl (thn (ho.run pins s σ H _ I h) fun v s1 ⟨x, H1, I1, r1, ⟨a, its, ys, ex, hx⟩, q1⟩ => ?_)
  subst ex
  obtain ⟨hg, _⟩ := (show ObjOk X.prog X.w H1 s1.heap a (.frz (tupO its) (.tup ys)) from I1.hok a _ hx)
  have e0 : v = .ref a := r1
  subst e0
  refine ⟨"tuple", id, pa, slot, hty, ⟨_, hg, rfl⟩, fun b eb => ?_, ?_⟩
  · cases eb
    exact ⟨_, hg, rfl⟩
  · have hA := ha.run cpos pins s1 σ H1 _ I1 q1
    rw [hs] at hA ⊢
    exact Calls.callWith_builtin (by show (false || (backTo cpos (starEach es X.env)).any (·.1)) = false; rw [hplain] <;> rfl) (Calls.evalArgs_plain (thn hA fun us s2 ⟨vs, H2, I2, r2, q2⟩ => hm pins s2 σ H2 (.ref a) vs (.ref a) us Q I2 rfl r2 q2))
theorem bm_K (K : PySem.W.Frag) (hK : X.K = K) {o e : Expr} {es : List Expr} {to : TE} {t : TA} {name : Str} {apos cpos : Pos} {T id : String} {r : V → List V → Hp → VK → Prop} (pa : PlainAttrs T) (slot : Slot T name id) (hty : typeOf (.builtin id) = pure (.type "method_descriptor")) (hm : MtR X id r) (ho : PE X o to) (ha : PA X (e :: es) t)
    (hbase : attributeBase o name X.env (eval o X.env) = eval o X.env := by rfl)
    (hfew : ((backTo cpos (starEach (e :: es) X.env)).all (fun x => !x.1) && (backToKw cpos (keywordEach [] X.env)).all (fun x => x.1.isSome)
      && decide ((e :: es).length + ([] : List Keyword).length + (if ([] : List Keyword).isEmpty then 0 else 1) < 30)) = true := by rfl)
    (hline : (apos.endLine == cpos.line) = true := by rfl) (hs : starEach (e :: es) X.env = (false, eval e X.env) :: starEach es X.env := by rfl) (hplain : (backTo cpos (starEach es X.env)).any (·.1) = false := by rfl) :
    PE X (.Call (.Attribute o name apos) (e :: es) [] cpos) (tBM K T r to t) := hK ▸ pe_bm pa slot hty hm ho ha hbase hfew hline hs hplain
theorem mtIdx_K (K : PySem.W.Frag) (hK : X.K = K) : MtR X "list.index" (rIndex K) := hK ▸ mt_index
theorem mtTix_K (K : PySem.W.Frag) (hK : X.K = K) : MtR X "tuple.index" (rTix K) := hK ▸ mt_tix
/-! t * 1, t * 0 -/
theorem tuple_mul_one (l : Addr) (items : Array Value) (n : Nat) (dd : Option Addr) (sl : Array (Option Value)) (u : Tok) :
    Meets (Builtin.«tuple.__mul__» ⟨[.ref l, .int 1 u], []⟩) (fun _ R s => s.heap.get? l = some { cls := .type "tuple", dict := dd, data := .seq items n, slots := sl } ∧ R (.ok (.ret (Value.ref l))) s) :=
  .of_wp fun prog w A R s h => by
    obtain ⟨hp, g, d, tk, os⟩ := s
    obtain ⟨hl, h⟩ := h
    have f1 := AutoSeq1.idx_int
    have c1 : (items.isEmpty || (1 : Int) == 1) = true := by simp
    wp_walk using wpAny_loadPart' hl
    repeat (first
      | (refine wpAny_ite_false (decide_eq_false (by decide)) ?_; wp_walk using wpAny_loadPart' hl)
      | (refine wpAny_ite_true (decide_eq_true (by rw [c1])) ?_; wp_walk using wpAny_loadPart' hl))
    all_goals (first | exact ⟨_, rfl, h⟩ | trace_state)
theorem tuple_mul_none (l : Addr) (items : Array Value) (n : Nat) (dd : Option Addr) (sl : Array (Option Value)) (u : Tok) (hne : items.isEmpty = false) :
    Meets (Builtin.«tuple.__mul__» ⟨[.ref l, .int 0 u], []⟩) (fun _ R s => s.heap.get? l = some { cls := .type "tuple", dict := dd, data := .seq items n, slots := sl } ∧
      R (.ok (.ret (Value.ref s.heap.objs.size))) { s with heap := s.heap.push { cls := Value.type "tuple", data := Data.seq #[] }, toks := s.toks }) :=
  .of_wp fun prog w A R s h => by
    obtain ⟨hp, g, d, tk, os⟩ := s
    obtain ⟨hl, h⟩ := h
    have f1 := AutoSeq1.idx_int
    have c1 : (items.isEmpty || (0 : Int) == 1) = false := by rw [hne]; rfl
    have c2 : (decide ((0 : Int) ≤ 0) || items.isEmpty) = true := by simp
    wp_walk using wpAny_loadPart' hl
    repeat (first
      | (refine wpAny_ite_false (decide_eq_false (by decide)) ?_; wp_walk using wpAny_loadPart' hl)
      | (refine wpAny_ite_false (decide_eq_false (by rw [c1]; exact Bool.false_ne_true)) ?_; wp_walk using wpAny_loadPart' hl)
      | (refine wpAny_ite_true (decide_eq_true (by rw [c2])) ?_; wp_walk using wpAny_loadPart' hl))
    exact ⟨_, rfl, h⟩
/-- t * 1 is t; t * 0 is () -/
def rRep01 (K : PySem.W.Frag) : R2 := fun x y H Q => ∃ l xs, x = .ref l ∧ L2.SqT K H l xs ∧ xs ≠ [] ∧ ((y = .int 1 ∧ Q (.ref l) H) ∨ (y = .int 0 ∧ ∀ {its : List Value} p, H p = none → Q (.ref p) (upd H p (XT its []))))
theorem op_rep01 : OpR X (binaryOp .Mult) (rRep01 X.K) := by
  intro pins s σ H x y v u Q I rx ry h
  obtain ⟨l, xs, rfl, hT, hne, h⟩ := h
  cases rx
  obtain ⟨its, r, ⟨⟨c1, d1, e1, l1⟩, ho, hc, n, hd⟩, hs⟩ := I.tuple hT
  simp only at hc hd
  subst hc hd
  have hi : its.toArray.isEmpty = false := by
    cases its with
    | nil =>
      cases r
      exact absurd rfl hne
    | cons a b => rfl
  rcases h with ⟨rfl, q⟩ | ⟨rfl, q⟩
  · obtain ⟨t, rfl⟩ := ry
    exact wpAny_binaryOp_repeat_ref (T := "tuple") (U := "int") (by decide) ⟨_, ho, rfl⟩ (fun s' => typeIs_int s' 1 t) noFill_tuple_mul F.fills_int_mul F.slot_int_rmul repeat_tuple F.slot_int_index.lookup
      (call_meets F.slot_int_rmul (typeIs_int s 1 t) F.entry_int_rmul (F.args_int_rmul_2 _ _) (int_rmul_tuple 1 t l its.toArray n d1 l1)
        ⟨ho, rfl, ⟨_, ho, rfl⟩, call_meets F.slot_tuple_mul ⟨_, ho, rfl⟩ F.entry_tuple_mul (F.args_tuple_mul_2 _ _) (tuple_mul_one l its.toArray n d1 l1 t) ⟨ho, ⟨.ref l, H, I, rfl, q⟩⟩⟩)
  · obtain ⟨t, rfl⟩ := ry
    exact wpAny_binaryOp_repeat_ref (T := "tuple") (U := "int") (by decide) ⟨_, ho, rfl⟩ (fun s' => typeIs_int s' 0 t) noFill_tuple_mul F.fills_int_mul F.slot_int_rmul repeat_tuple F.slot_int_index.lookup
      (call_meets F.slot_int_rmul (typeIs_int s 0 t) F.entry_int_rmul (F.args_int_rmul_2 _ _) (int_rmul_tuple 0 t l its.toArray n d1 l1)
        ⟨ho, rfl, ⟨_, ho, rfl⟩, call_meets F.slot_tuple_mul ⟨_, ho, rfl⟩ F.entry_tuple_mul (F.args_tuple_mul_2 _ _) (tuple_mul_none l its.toArray n d1 l1 t hi) ⟨ho, .ref s.heap.objs.size, _,
          I.laid (t' := s.toks) (fun b ob q => Heap.get?_push_of_some _ q) (Nat.le_refl _) (xt_ok (its := []) (Nat.zero_le _) .nil (Heap.get?_push_size _ rfl)), rfl, q _ (I.hok.fresh (Nat.le_refl _))⟩⟩)
end
section
variable {K : PySem.W.Frag} {Γ : G} {ta tb te to : TE} {i j k : Int} {ns : List Int}
theorem rv_rep1 {ds : List D} (h : ds ≠ []) : RvR K (rRep01 K) (.tuple ds) (.int 1) (.tuple ds) := fun x y H r1 r2 Q q => by
  obtain ⟨a, vs, rfl, hs, hd⟩ := r1.tup
  refine ⟨a, vs, rfl, hs, fun z => h ?_, .inl ⟨r2.int, q _ H (Ex.refl H) (.inl (.tup hs hd))⟩⟩
  have := DpAll.length hd
  rw [z] at this
  exact List.length_eq_zero_iff.mp this.symm
theorem rv_rep0 {ds : List D} (h : ds ≠ []) : RvR K (rRep01 K) (.tuple ds) (.int 0) (.tuple []) := fun x y H r1 r2 Q q => by
  obtain ⟨a, vs, rfl, hs, hd⟩ := r1.tup
  refine ⟨a, vs, rfl, hs, fun z => h ?_, .inr ⟨r2.int, fun p hp => q _ _ (Ex.new hp) (.inl (.tup (st_of upd_same) .nil))⟩⟩
  have := DpAll.length hd
  rw [z] at this
  exact List.length_eq_zero_iff.mp this.symm
/-- the place of k -/
theorem ev_tix (ho : EvR K to Γ (tI ns)) (ha : EvR K te Γ (.int k)) {p : Nat} (h1 : ns[p]? = some k) (h2 : ∀ m, m < p → ns[m]? ≠ some k) : EvR K (tBMT (rTix K) to (tCons te tNil)) Γ (.int (p : Int)) := fun σ H E Q q =>
  ho σ H E _ fun v H1 e1 r1 => by
    obtain ⟨a, vs, rfl, hs, hd⟩ := r1.tup
    rw [DpAll.ints hd] at hs
    refine ⟨let ⟨i, q⟩ := hs; ⟨a, i, _, rfl, q⟩, ha σ H1 (E.mono e1) _ fun w H2 e2 r2 => ?_⟩
    exact ⟨a, ns, k, p, rfl, by rw [r2.int], ex_t e2 hs, h1, h2, q _ H2 (e1.trans e2) (.inl (.int _))⟩
theorem ev_lix (ho : EvR K to Γ (lI ns)) (ha : EvR K te Γ (.int k)) {p : Nat} (h1 : ns[p]? = some k) (h2 : ∀ m, m < p → ns[m]? ≠ some k) : EvR K (tBM K "list" (rIndex K) to (tCons te tNil)) Γ (.int (p : Int)) := fun σ H E Q q =>
  ho σ H E _ fun v H1 e1 r1 => by
    obtain ⟨a, vs, rfl, hs, hd⟩ := r1.lst
    rw [DpAll.ints hd] at hs
    refine ⟨.inl ⟨rfl, _, hs⟩, ha σ H1 (E.mono e1) _ fun w H2 e2 r2 => ?_⟩
    refine ⟨a, ns.map V.int, .int k, p, .int k, rfl, by rw [r2.int], ex_l e2 hs, rfl, flat_ints ns, by rw [List.getElem?_map, h1]; rfl, by show (k == k) = true; exact beq_self_eq_true k, fun m z' hm hz => ?_, q _ H2 (e1.trans e2) (.inl (.int _))⟩
    rw [List.getElem?_map] at hz
    cases e : ns[m]? with
    | none => rw [e] at hz; cases hz
    | some y =>
      rw [e] at hz
      cases hz
      show (y == k) = false
      exact beq_eq_false_iff_ne.mpr fun z => h2 m hm (by rw [e, z])
/-! range(n - 1, 0, -1) -/
def dnI (hi : Int) (n : Nat) : List Int := (List.range n).map fun (i : Nat) => hi + (i : Int) * (-1)
theorem dnI_get {hi : Int} {n i : Nat} (h : i < n) : (dnI hi n)[i]? = some (hi + (i : Int) * (-1)) := by
  unfold dnI
  rw [List.getElem?_map, List.getElem?_range h]
  rfl
theorem walks_dn (B : Hp) (hi : Int) (n : Nat) : WalksD K (Itc hi (-1) n) B ((dnI hi n).map .int) := fun H' _ => by
  refine ⟨fun i d h => ?_, ?_⟩
  · have hi' : i < n := by
      obtain ⟨q, _⟩ := List.getElem?_eq_some_iff.mp h
      simpa [dnI] using q
    rw [List.getElem?_map, dnI_get hi'] at h
    cases h
    exact ⟨hi', fun x H'' y => by
      obtain ⟨e1, e2⟩ := y
      subst e1 e2
      exact ⟨Ex.refl _, .inl (.int _)⟩⟩
  · show n ≤ _
    simp [dnI]
theorem it_rng3 {t : TA} {hi lo : Int} (h : EvAs K t Γ [.int hi, .int lo, .int (-1)]) (hn : -(2 ^ 62) ≤ hi ∧ hi < 2 ^ 62 ∧ -(2 ^ 62) ≤ lo ∧ lo < 2 ^ 62) : EvIt K (iRng3 t) Γ ((dnI hi (hi - lo).toNat).map .int) := fun σ H E R q =>
  h σ H E _ fun vs H1 e1 r => by
    cases r with
    | cons r1 r =>
      obtain ⟨v, w, rfl, r2, r3⟩ := rp2 r
      exact ⟨hi, lo, -1, _, by rw [r1.int, r2.int, r3.int], RgC.neg hn.1 hn.2.1 hn.2.2.1 hn.2.2.2, q _ H1 e1 (walks_dn H1 hi _)⟩
end
section
variable {K : PySem.W.Frag} {S : SS} {B : Hp} {P : Post} {ta te : TE} {ds : List D} {d1 d2 : D} {i : Nat}
/-- xs[i], xs[j] = a tuple of two -/
theorem run_swapC {t1 t2 : TE} {k1 k2 : Int} {j1 j2 : Nat} (hs : S[i]? = some (.ow ds)) (ha : EvR K ta (gm S) (.tuple [d1, d2])) (n1 : noL d1 = true) (n2 : noL d2 = true) (h1 : EvR K t1 (gm S) (.int k1)) (hj1 : ixN ds.length k1 = some j1)
    (h2 : EvR K t2 (gm (S.set i (.ow (ds.set j1 d1)))) (.int k2)) (hj2 : ixN ds.length k2 = some j2) (k : P.nx (S.set i (.ow ((ds.set j1 d1).set j2 d2)))) :
    Run K B (tAsg ta (gTup K 2 (gCons (gSub (tVar i) t1 rSetL) (gCons (gSub (tVar i) t2 rSetL) gNil)))) S P := fun B' e D σ H sb nx rt bk ct => by
  obtain ⟨Hm, A, a, sa⟩ := sb
  obtain ⟨v, hv, ho⟩ := sa.own i _ hs (by intro z; cases z)
  obtain ⟨l, vs, rfl, hA, hl, hd⟩ := ho
  refine ha σ H sa.env _ fun w H3 e3 r => ?_
  have sa3 := sa.grow e3
  have hlA : l ∈ A i := by rw [hA]; simp
  have rr := Rp.mapT (sa.sqT e3) (by simp [noL, noLs, n1, n2]) r
  obtain ⟨q, ws, rfl, hq, hw⟩ := r.tup
  obtain ⟨q', ws', eq', hq', hw'⟩ := rr.tup
  cases eq'
  have hd3 := DpAll.mono (sa.strip_of e3) hd
  cases hw' with
  | cons x3 hw2 =>
  cases hw2 with
  | cons y3 hw3 =>
  cases hw3
  rename_i x y
  have hq3 : SqT K H3 q [x, y] := ex_t strip_ex hq'
  refine ⟨q, [x, y], rfl, hq3, rfl, x, [y], rfl, ?_⟩
  refine ⟨_, hv, h1 σ H3 sa3.env _ fun z H4 e4 r4 => ?_⟩
  rw [r4.int]
  have sa4 := sa3.grow e4
  have x4 := Dp.mono (sa3.strip_of e4) x3
  have y4 := Dp.mono (sa3.strip_of e4) y3
  have hd4 := DpAll.mono (sa3.strip_of e4) hd3
  have hl4 : H4 l = some (.lst vs) := e4 _ _ (e3 _ _ hl)
  refine ⟨l, vs, k1, j1, rfl, rfl, hl4, by rw [DpAll.length hd]; exact hj1, ?_⟩
  have sa5 : SA K (strip H4 A) (upd H4 l (.lst (vs.set j1 x))) σ (S.set i (.ow (ds.set j1 d1))) A :=
    sa4.write (e' := .ow (ds.set j1 d1)) hlA hv ⟨l, vs.set j1 x, rfl, hA, upd_same, DpAll.set j1 hd4 x4⟩ (by intro z; cases z)
  refine ⟨y, [], rfl, _, hv, h2 σ _ sa5.env _ fun z H6 e6 r6 => ?_⟩
  rw [r6.int]
  have sa6 := sa5.grow e6
  have hl6 : H6 l = some (.lst (vs.set j1 x)) := e6 _ _ upd_same
  refine ⟨l, vs.set j1 x, k2, j2, rfl, rfl, hl6, by rw [List.length_set, DpAll.length hd]; exact hj2, rfl, ?_⟩
  have y6 := Dp.mono (sa5.strip_of e6) y4
  have hd6 := DpAll.mono (sa5.strip_of e6) (DpAll.set j1 hd4 x4)
  have sa7 : SA K (strip H6 A) (upd H6 l (.lst ((vs.set j1 x).set j2 y))) σ ((S.set i (.ow (ds.set j1 d1))).set i (.ow ((ds.set j1 d1).set j2 d2))) A :=
    sa6.write (e' := .ow ((ds.set j1 d1).set j2 d2)) hlA hv ⟨l, (vs.set j1 x).set j2 y, rfl, hA, upd_same, DpAll.set j2 hd6 y6⟩ (by intro z; cases z)
  rw [List.set_set] at sa7
  exact nx _ _ _ ⟨_, A, ((a.trans (sa.strip_of e3)).trans (sa3.strip_of e4)).trans (sa5.strip_of e6), sa7⟩ k
end
end KW

set_option Elab.async false
set_option linter.all false
set_option maxRecDepth 100000
set_option maxHeartbeats 4000000
namespace KW
open PySem PySem.Spec PyProof.Rows L2 Evl
theorem run_mid {K : PySem.W.Frag} {B : Hp} {t u : TS} {S T : SS} {P : Post} (h : Run K B t S ⟨fun S' => S' = T, P.rt, P.bk, P.ct⟩) (k : Run K B u T P) : Run K B (tSeq t u) S P :=
  run_seq (h.imp (fun S' e => by subst e; exact k) (fun _ _ z => z) (fun _ z => z) (fun _ z => z))
theorem run_midE {K : PySem.W.Frag} {B : Hp} {t u : TS} {S : SS} {T : Sl → SS} {P : Post} (h : Run K B t S ⟨fun S' => ∃ e, S' = T e, P.rt, P.bk, P.ct⟩) (k : ∀ e, Run K B u (T e) P) : Run K B (tSeq t u) S P :=
  run_seq (h.imp (fun S' ⟨e, q⟩ => by subst q; exact k e) (fun _ _ z => z) (fun _ z => z) (fun _ z => z))
/-! equality of lists and tuples of tuples of ints -/
theorem eqvAll_tIs : ∀ xss yss : List (List Int), PyData.eqvAll (xss.map tI) (yss.map tI) = decide (xss = yss)
  | [], [] => by simp [PyData.eqvAll]
  | [], _ :: _ => by simp [PyData.eqvAll]
  | _ :: _, [] => by simp [PyData.eqvAll]
  | xs :: xss, ys :: yss => by
    rw [List.map_cons, List.map_cons, PyData.eqvAll, eqv_tI, eqvAll_tIs xss yss]
    by_cases h1 : xs = ys
    · by_cases h2 : xss = yss
      · simp [h1, h2]
      · simp [h1, h2]
    · simp [h1]
theorem eqv_lT (xss yss : List (List Int)) : PyData.eqv (.list (xss.map tI)) (.list (yss.map tI)) = decide (xss = yss) := eqvAll_tIs xss yss
theorem eqv_tT (xss yss : List (List Int)) : PyData.eqv (.tuple (xss.map tI)) (.tuple (yss.map tI)) = decide (xss = yss) := eqvAll_tIs xss yss
def fD (s : Int × List (List Int)) : D := .tuple [.int s.1, .tuple (s.2.map tI)]
theorem noLs_tIs (xss : List (List Int)) : noLs (xss.map tI) = true := noLs_map xss fun xs => noL_tI xs
theorem noL_fD (s : Int × List (List Int)) : noL (fD s) = true := by
  show noLs [.int s.1, .tuple (s.2.map tI)] = true
  simp only [noLs, noL, noLs_tIs]
  rfl
theorem eqv_fD (a b : Int × List (List Int)) : PyData.eqv (fD a) (fD b) = decide (a = b) := by
  obtain ⟨a1, a2⟩ := a
  obtain ⟨b1, b2⟩ := b
  show PyData.eqvAll [.int a1, .tuple (a2.map tI)] [.int b1, .tuple (b2.map tI)] = _
  rw [PyData.eqvAll, PyData.eqvAll, PyData.eqvAll, eqv_int, eqv_tT]
  by_cases h1 : a1 = b1
  · by_cases h2 : a2 = b2
    · simp [h1, h2]
    · simp [h1, h2]
  · simp [h1]
theorem shaped_fD (s : Int × List (List Int)) : SeqAt.shaped (fD s) = true := by
  unfold SeqAt.shaped fD
  have h1 : PyData.canLay0 (.tuple [.int s.1, .tuple (s.2.map tI)]) = true := by
    show PyData.canLayAll0 [.int s.1, .tuple (s.2.map tI)] = true
    rw [PyData.canLayAll0, PyData.canLayAll0]
    show (true && (PyData.canLayAll0 (s.2.map tI) && true)) = true
    rw [lay_tIs]
    rfl
  have h2 : PyData.depth (.tuple [.int s.1, .tuple (s.2.map tI)]) ≤ 64 := by
    unfold PyData.depth
    rw [PyData.depthAll, PyData.depthAll]
    have h3 : PyData.depth (.tuple (s.2.map tI)) ≤ 2 := by
      unfold PyData.depth
      have := depth_tIs s.2
      omega
    have h4 : PyData.depth (.int s.1) = 0 := rfl
    have h5 : PyData.depthAll [] = 0 := rfl
    omega
  rw [h1, decide_eq_true h2]
  rfl
section
variable {K : PySem.W.Frag}
theorem rv_eqLT {xss yss : List (List Int)} : RvR K (rEqD K) (.list (xss.map tI)) (.list (yss.map tI)) (.bool (decide (xss = yss))) := fun _ _ H r1 r2 Q q => ⟨_, _, (r1.dp rfl).l, (r2.dp rfl).l, shaped_tT xss, shaped_tT yss, by rw [eqv_lT]; exact q _ H (Ex.refl H) (.inl (.bl _))⟩
theorem rv_eqF {a b : Int × List (List Int)} : RvR K (rEqD K) (fD a) (fD b) (.bool (decide (a = b))) := fun _ _ H r1 r2 Q q => ⟨_, _, (r1.dp rfl).l, (r2.dp rfl).l, shaped_fD a, shaped_fD b, by rw [eqv_fD]; exact q _ H (Ex.refl H) (.inl (.bl _))⟩
theorem rv_neF {a b : Int × List (List Int)} : RvR K (rNeD K) (fD a) (fD b) (.bool (!decide (a = b))) := fun _ _ H r1 r2 Q q => ⟨_, _, (r1.dp rfl).l, (r2.dp rfl).l, shaped_fD a, shaped_fD b, by rw [eqv_fD]; exact q _ H (Ex.refl H) (.inl (.bl _))⟩
end
theorem cut_map {α : Type} (f : α → D) (xs : List α) (k : Nat) : cutD (xs.map f) (some (k : Int)) none = (xs.drop k).map f := by
  rw [cutD_from, List.map_drop]
end KW

set_option Elab.async false
set_option linter.all false
set_option maxRecDepth 100000
set_option maxHeartbeats 4000000
/-! functions that are handed a pool; draws inside of greater terms -/
namespace KW
open PySem PySem.Spec PyProof.Rows L2 Evl
def initP (n : Nat) (l c : Addr) (m : Nat) (ns : List Int) : SS := .pl l c m :: (ns.map fun k => .im (.int k)) ++ List.replicate (n - ns.length - 1) .no
theorem start_pool {K : PySem.W.Frag} {H : Hp} {N : List Str} {l c : Addr} {at' : Int} {ns : List Int} (h : PoolAt H l c at') (hN : ns.length + 1 ≤ N.length) : SB K (del H c) H (L2.start N (.ref l :: ns.map V.int)) (initP N.length l c at'.toNat ns) := by
  obtain ⟨r, ms, g1, g2, g3, n1, n2, g4, g5, g6, g7⟩ := h
  have sl : (L2.start N (.ref l :: ns.map V.int)) = some (.ref l) :: ((ns.map fun k => some (V.int k)) ++ List.replicate (N.length - ns.length - 1) none) := by
    simp only [L2.start, List.map_cons, List.map_map, List.length_cons, List.length_map, List.cons_append]
    congr 1
  have sa0 : SA K (del H c) H (L2.start N (.ref l :: ns.map V.int)) (.no :: ((ns.map fun k => Sl.im (.int k)) ++ List.replicate (N.length - ns.length - 1) .no)) (fun _ => []) :=
    { ex := del_ex
      len := by rw [sl]; simp
      own := fun i e q n => by
        rw [sl]
        cases i with
        | zero =>
          rw [List.getElem?_cons_zero] at q
          exact absurd (Option.some.inj q).symm n
        | succ i =>
          rw [List.getElem?_cons_succ] at q ⊢
          by_cases hi : i < ns.length
          · rw [List.getElem?_append_left (by simpa using hi), List.getElem?_map, List.getElem?_eq_getElem hi] at q ⊢
            cases q
            exact ⟨_, rfl, .inl (.int _), rfl⟩
          · rw [List.getElem?_append_right (by simpa using hi)] at q
            have := List.mem_of_getElem? q
            exact absurd (List.eq_of_mem_replicate this) n
      empty := fun _ _ => rfl
      sep := fun _ _ _ _ z => by cases z
      out := fun _ _ z => by cases z }
  have sa1 := sa0.put (i := 0) (v := .ref l) (e := .pl l c at'.toNat) (as := [c]) (by simp) ⟨r, ms, at', rfl, rfl, by rw [del_ne n1]; exact g1, by rw [del_ne n2]; exact g2, g3, g4, by omega, g5, g6, g7⟩
    (fun j a _ _ z => by cases z) (fun a ha => by rw [List.mem_singleton.mp ha]; exact del_same) (fun z => by cases z)
  have e1 : (L2.start N (.ref l :: ns.map V.int)).set 0 (some (.ref l)) = L2.start N (.ref l :: ns.map V.int) := by rw [sl]; rfl
  rw [e1] at sa1
  exact ⟨del H c, _, Ex.refl _, sa1⟩
section
variable {K : PySem.W.Frag} {S : SS} {B : Hp} {P : Post} {te ta tb : TE} {d d0 : D} {i : Nat} {l c : Addr} {m : Nat}
theorem run_retP (h : EvR K te (gm S) d) (hs : S[i]? = some (.pl l c m)) (k : ∀ v H' a2, Ex B H' → Rp K H' v d → H' c = some (.lst [.int a2]) → 0 ≤ a2 → a2 ≤ (m : Int) → P.rt v H') : Run K B (tRet te) S P := fun B' e D σ H sb nx rt bk ct =>
  h σ H sb.env _ fun v H1 e1 r1 => by
    have ex := sb.ex
    obtain ⟨Hm, A, eB, sa⟩ := sb
    obtain ⟨v0, hv, r, ns, at', rfl, hA, q1, q2, q3, q4, q5, _⟩ := sa.own i _ hs (by intro z; cases z)
    exact rt v H1 (k v H1 at' ((e.trans ex).trans e1) r1 (e1 _ _ q3) q4 q5)
/-- what evaluates to some data, the state turned as the data tell -/
def Xw (K : PySem.W.Frag) (te : TE) (S : SS) (R : D → SS → Prop) : Prop := ∀ B σ H, SB K B H σ S → ∀ Q : VK, (∀ d v B' H' S', Ex B B' → R d S' → noL d = true → Rp K B' v d → SB K B' H' σ S' → Q v H') → te σ H Q
theorem Xv.w {S' : SS} {R : D → Prop} (h : Xv K te S S' R) : Xw K te S (fun d S'' => R d ∧ S'' = S') := fun B σ H sb Q q => h B σ H sb Q fun d v B' H' e r n rp sb' => q d v B' H' S' e ⟨r, rfl⟩ n rp sb'
theorem Xw.imp {R R' : D → SS → Prop} (h : Xw K te S R) (i : ∀ d S', R d S' → R' d S') : Xw K te S R' := fun B σ H sb Q q => h B σ H sb Q fun d v B' H' S' e r => q d v B' H' S' e (i d S' r)
theorem SB.grown {H H' : Hp} {σ : L2.St} (sb : SB K B H σ S) (e : Ex H H') : ∃ B', Ex B B' ∧ SB K B' H' σ S ∧ ∀ v d, noL d = true → Rp K H' v d → Rp K B' v d := by
  obtain ⟨Hm, A, eB, sa⟩ := sb
  exact ⟨strip H' A, eB.trans (sa.strip_of e), ⟨_, A, Ex.refl _, sa.grow e⟩, fun v d n r => Rp.mapT (sa.sqT e) n r⟩
theorem xw_op {r : R2} {R R' : D → SS → Prop} (ha : EvR K ta (gm S) d0) (n0 : noL d0 = true) (hb : Xw K tb S R) (hr : ∀ e S', R e S' → ∃ f, RvR K r d0 e f ∧ noL f = true ∧ R' f S') : Xw K (tOp r ta tb) S R' := fun B σ H sb Q q =>
  ha σ H sb.env _ fun v H1 e1 r1 => by
    obtain ⟨B1, eb, sb1, mp⟩ := sb.grown e1
    have r1' := mp v d0 n0 r1
    refine hb B1 σ H1 sb1 _ fun d w B2 H2 S' e2 rd n rp sb2 => ?_
    obtain ⟨f, rv, nf, rf⟩ := hr d S' rd
    refine rv v w H2 ((r1'.mono e2).mono sb2.ex) (rp.mono sb2.ex) Q fun x H3 e3 r3 => ?_
    obtain ⟨B3, eb3, sb3, mp3⟩ := sb2.grown e3
    exact q f x B3 H3 S' ((eb.trans e2).trans eb3) rf nf (mp3 x f nf r3) sb3
theorem xw_tup1 {R : D → SS → Prop} (h : Xw K ta S R) (hd : ∀ d S', R d S' → isDict d = false) : Xw K (tTup (tCons ta tNil)) S (fun d S' => ∃ e, R e S' ∧ d = .tuple [e]) := fun B σ H sb Q q =>
  h B σ H sb _ fun d v B' H' S' e r n rp sb' => ⟨by show 1 ≤ sizeLine; decide, fun {its} p hp => by
    have e1 : Ex H' (upd H' p (XT its [v])) := Ex.new hp
    obtain ⟨B3, eb3, sb3, mp3⟩ := sb'.grown e1
    have rt : Rp K (upd H' p (XT its [v])) (.ref p) (.tuple [d]) := .inl (.tup (st_of upd_same) (.cons (((rp.mono sb'.ex).mono e1).dp (hd d S' r)) .nil))
    have nt : noL (.tuple [d]) = true := by simp [noL, noLs, n]
    exact q _ _ B3 _ S' (e.trans eb3) ⟨d, r, rfl⟩ nt (mp3 _ _ nt rt) sb3⟩
/-- an item of a new list of flat data, at a drawn place -/
theorem xw_ixF {R R' : D → SS → Prop} {ds : List D} (ha : EvF K ta (gm S) ds) (n0 : noLs ds = true) (hb : Xw K tb S R) (hr : ∀ e S', R e S' → ∃ (k : Nat) (f : D), e = .int k ∧ ds[k]? = some f ∧ R' f S') : Xw K (tOp (rIxX K) ta tb) S R' := fun B σ H sb Q q =>
  ha σ H sb.env _ fun p vs H1 np e1 hp hd => by
    obtain ⟨Hm, A, eB, sa⟩ := sb
    have hdm : DpAll K (strip H1 A) vs ds := DpAll.mapT (sa.sqT e1) ds vs n0 hd
    have hpm : strip H1 A p = some (.lst vs) := by rw [strip_out (fresh_own sa np)]; exact hp
    refine hb (strip H1 A) σ H1 ⟨_, A, Ex.refl _, sa.grow e1⟩ _ fun d w B2 H2 S' e2 rd n rp sb2 => ?_
    obtain ⟨k, f, rfl, hk, rf⟩ := hr d S' rd
    obtain ⟨x, h1, h2⟩ := DpAll.get hdm hk
    exact .inl ⟨p, vs, k, x, rfl, rp.int, SqL.of (sb2.ex _ _ (e2 _ _ hpm)), atI_nat h1, q f x B2 H2 S' ((eB.trans (sa.strip_of e1)).trans e2) rf (noLs_all.mp n0 f (List.mem_of_getElem? hk)) (.inl (Dp.mono e2 h2)) sb2⟩
theorem DpAll.erase {H : Hp} : ∀ {vs : List V} {ds : List D} (k : Nat), DpAll K H vs ds → DpAll K H (vs.eraseIdx k) (ds.eraseIdx k)
  | _, [], _, .nil => .nil
  | _, _ :: _, 0, .cons _ b => b
  | _, _ :: _, k + 1, .cons a b => .cons a (DpAll.erase k b)
theorem xw_pop {R : D → SS → Prop} {ds0 : List D} {il : Nat} (h0 : S[il]? = some (.ow ds0)) (h : Xw K ta S R) (hr : ∀ d S', R d S' → ∃ (k : Nat) (ds : List D), d = .int k ∧ S'[il]? = some (.ow ds) ∧ k < ds.length ∧ ds.length ≤ 100000 ∧ noLs ds = true) :
    Xw K (tBM K "list" rPopAt (tVar il) (tCons ta tNil)) S (fun e S'' => ∃ (k : Nat) (ds : List D) (S' : SS), R (.int k) S' ∧ S'[il]? = some (.ow ds) ∧ ds[k]? = some e ∧ S'' = S'.set il (.ow (ds.eraseIdx k))) := fun B σ H sb Q q => by
  have sbk := sb
  obtain ⟨Hm, A, eB, sa⟩ := sb
  obtain ⟨v, hv, l, vs, rfl, hA, hl, hd⟩ := sa.own il _ h0 (by intro z; cases z)
  refine ⟨_, hv, .inl ⟨rfl, _, SqL.of hl⟩, h B σ H sbk _ fun d w B2 H2 S' e2 rd n rp sb2 => ?_⟩
  obtain ⟨k, ds, rfl, hs, hk, hz, nd⟩ := hr d S' rd
  obtain ⟨Hm2, A2, eB2, sa2⟩ := sb2
  obtain ⟨v2, hv2, l2, vs2, rfl, hA2, hl2, hd2⟩ := sa2.own il _ hs (by intro z; cases z)
  have : l2 = l := by
    rw [hv] at hv2
    cases hv2
    rfl
  subst this
  have hl12 := DpAll.length hd2
  obtain ⟨x, hx1, hx2⟩ := DpAll.get hd2 (List.getElem?_eq_getElem hk)
  have hlA : l2 ∈ A2 il := by rw [hA2]; simp
  refine ⟨l2, vs2, k, k, x, rfl, by rw [rp.int], hl2, by omega, by omega, ?_, hx1, ?_⟩
  · unfold seqIndex?
    simp
    omega
  · have sa3 := sa2.write (e' := .ow (ds.eraseIdx k)) hlA hv2 (o := .lst (vs2.eraseIdx k)) ⟨l2, _, rfl, hA2, upd_same, DpAll.erase k hd2⟩ (by intro z; cases z)
    exact q ds[k] x Hm2 _ _ (e2.trans eB2) ⟨k, ds, S', rd, hs, List.getElem?_eq_getElem hk, rfl⟩ (noLs_all.mp nd _ (List.getElem_mem hk)) (.inl hx2) ⟨Hm2, A2, Ex.refl _, sa3⟩
theorem run_setW {R : D → SS → Prop} (h : Xw K te S R) (k : ∀ d S', R d S' → i < S'.length ∧ P.nx (S'.set i (.im d))) : Run K B (tAsg te (gName i)) S P := fun B' e D σ H sb nx rt bk ct =>
  h B' σ H sb _ fun d v B2 H1 S' eB r n rp sb1 => nx _ H1 _ ((sb1.putB (B := B) rp (k d S' r).1).mono eB) (k d S' r).2
end
section
variable {x qual : Str} {K : PySem.W.Frag} {st : Stmt} {f : Addr} {fd : FuncData} {N ps : List Str} {P : Program} {w : World} {mg : Str → Option Value} {base : Heap} {k cost : Nat} {p0 : Str}
theorem def_X (F : Fun K x qual st f fd) (S : FnScope N (p0 :: ps) (defScope st)) (ok : List D → Prop) (Fr : List D → D → Prop) (hok : ∀ ds, ok ds → ∃ ns : List Int, ds = ns.map .int ∧ ns.length = ps.length) (hN : ps.length + 1 ≤ N.length)
    (hb : ∀ (cdv : Value) (A : Around) (outer : List Env) (s : Shared) (H : Hp) (E : XK), Room k (A.deeper (envOfC qual (defScope st) s.heap.objs.size f cdv)) →
      ∃ t, PSs (cxOf CX0 P w K mg base N qual (defScope st) f cdv A outer s H E).nox (defBody st) t ∧ ∀ (l c : Addr) (m : Nat) (ns : List Int), m + cost ≤ 1000000 → ok (ns.map .int) → ∀ B, Run K B t (initP N.length l c m ns)
        { nx := fun _ => False, rt := fun v H' => ∃ d a2, Fr (ns.map .int) d ∧ noL d = true ∧ Rp K H' v d ∧ Ex B H' ∧ H' c = some (.lst [.int a2]) ∧ 0 ≤ a2 ∧ a2 ≤ (m : Int) + cost }) : FnOk P w K mg base CX0 (k + 1) f fd (p0 :: ps) (spX K ok Fr cost) := by
  refine F.ok S (fun vs H Q E h => ?_) (fun cdv A outer s H vs Q E hr h => ?_)
  · obtain ⟨l, c, at', ws, ds, rfl, _, _, r, q, _⟩ := h
    obtain ⟨ns, rfl, e⟩ := hok ds q
    have := Paired.length r
    simp only [List.length_cons, List.length_map] at this ⊢
    omega
  · obtain ⟨l, c, at', ws, ds, rfl, hp, hm, r, o, z⟩ := h
    obtain ⟨ns, rfl, e⟩ := hok ds o
    have ew : ws = ns.map V.int := by
      have : DpAll K H ws (ns.map .int) := RpAll.dp (by
        unfold noDs
        rw [List.all_map]
        exact List.all_eq_true.mpr fun _ _ => rfl) r
      exact DpAll.ints this
    subst ew
    obtain ⟨t, ht, hrun⟩ := hb cdv A outer s H E hr
    have h0 : 0 ≤ at' := by
      obtain ⟨_, _, _, _, _, _, _, g, _⟩ := hp
      exact g
    refine ⟨t, ht, hrun l c at'.toNat ns (by omega) o (del H c) (del H c) (Ex.refl _) _ _ H (start_pool hp (by omega)) (fun _ _ _ _ z => z.elim) (fun v H' y => ?_) (fun _ _ _ _ z => z.elim) (fun _ _ _ _ z => z.elim)⟩
    obtain ⟨d, a2, hF, n, rp, ex, hc, h1, h2⟩ := y
    exact z d v H' a2 hF n (rp.dp (noL_dict n)) (fun a o' na ha => ex a o' (by rw [del_ne na]; exact ha)) hc h1 (by omega)
end
end KW

set_option Elab.async false
set_option linter.all false
set_option maxRecDepth 100000
set_option maxHeartbeats 8000000
/-! sorted(d) of a dict with int keys, of any length; dict(t) of a tuple of pairs of ints -/
namespace KW
open PySem PySem.Spec PyProof.Rows L2 Evl
section
variable {X : Cx}
def rSortedD : List V → Hp → VK → Prop := fun xs H Q => ∃ (a : Addr) (kvs : List (Int × Int)), xs = [.ref a] ∧ H a = some (.dK (kvs.map kvV)) ∧ kvs.length ≤ 100000 ∧
  ∀ (ys : List Int) (p : Addr), ys.Perm (kvs.map (·.1)) → ys.Pairwise (· ≤ ·) → H p = none → Q (.ref p) (upd H p (.lst (ys.map V.int)))
theorem cr_sortedD (hc : X.calm = true) : CallR X (.builtin "sorted") rSortedD := by
  intro pins s σ H xs us Q I r ⟨a, kvs, ex, hd, hn, q⟩
  subst ex
  obtain ⟨u, rfl, rx⟩ := vals1 r
  cases rx
  obtain ⟨z, lo, vs, rel, dd⟩ := dk_rd I.hok (.inl hd)
  obtain ⟨ep, hat⟩ := dd.dictAt
  have hkeys : vs.map (·.1) = (kvs.map (·.1)).map Sum.inl := by
    have e := rel.keys.symm
    rw [e, List.map_map, List.map_map]
    rfl
  have hl : vs.length = kvs.length := by simpa using congrArg List.length hkeys
  have h16 : vs.length ≤ sizeLine := by rw [hl, sizeLine_eq]; omega
  refine Calls.call_function_entry PyProof.Rows.kind_sorted PyProof.Rows.plain_sorted PyProof.Rows.entry_sorted (PyProof.Rows.args_sorted1 _) ?_
  unfold Builtin.«sorted»
  refine wpAny_bind (m := checkCount "sorted" 1 1 _) (wpAny_pure ?_)
  refine wpAny_bind (PySem.W.kdu_collect (A := X.A.in1) (PySem.W.kdl_dict (knd := mixKind X.prog X.w) (kvs := vs) (ep := ep) lo) (I.ok.hd hc) hat h16 fun h' tk acc hk hacc => ?_)
  have hal : acc.toList.length = (kvs.map (·.1)).length := by rw [Array.length_toList, hacc.1, hl, List.length_map]
  have hS : IntsAre acc.toList (kvs.map (·.1)) := ints_each hal fun j v e => by
    obtain ⟨k, x, e1, e2⟩ := hacc.2 j v (by rw [← Array.getElem?_toList]; exact e)
    have e3 : (vs.map (·.1))[j]? = some k := by rw [List.getElem?_map, e1]; rfl
    rw [hkeys, List.getElem?_map] at e3
    cases e4 : (kvs.map (·.1))[j]? with
    | none => rw [e4] at e3; cases e3
    | some y =>
      rw [e4] at e3
      cases e3
      rcases keyIs_shape (show keyIs (Sum.inl y) v = true from e2) with ⟨i, t, ek, ev⟩ | ⟨z, t, ek, ev⟩
      · cases ek
        exact ⟨y, t, rfl, ev⟩
      · cases ek
  have I1 : Inv X pins σ H { s with heap := h', toks := tk } := I.kept hk
  have hz2 : acc.toList.length ≤ sizeLine := by rw [hal, List.length_map, sizeLine_eq]; omega
  refine wpAny_bind (wpAny_newList ?_ (by simpa using hz2))
  have hoL : (h'.push (seqObj "list" acc.toList.toArray 0)).get? h'.objs.size = some (seqObj "list" acc.toList.toArray 0) := Heap.get?_push_size _ rfl
  show wpAny _ _ _ _ _ { s with heap := h'.push (seqObj "list" acc.toList.toArray 0), toks := tk }
  refine wpAny_bind (wpAny_holding (wpAny_call_entry PyProof.Rows.slot_list_sort ⟨_, hoL, rfl⟩ PyProof.Rows.entry_list_sort
    (SrtO.list_sort_ord (s := { s with heap := h'.push (seqObj "list" acc.toList.toArray 0), toks := tk }) SrtO.swo_int hoL hz2 (fun h2 => SrtO.ints_sortable hS h2) fun out h1 h2 => ⟨_, rfl, ?_⟩) (PyProof.Rows.args_list_sort _)))
  obtain ⟨k1, k2, k3⟩ := SrtO.ints_out hS h1 h2
  obtain ⟨e', he'⟩ := PyProof.Rows.sortedHeap_at (vs := acc.toList) (out := out.toArray) hoL
  have hlen : ((out.map SrtO.iv).map V.int).length ≤ sizeLine := by
    rw [List.length_map, k2.length_eq, List.length_map, sizeLine_eq]
    omega
  refine wpAny_pure ⟨_, rfl, .ref h'.objs.size, upd H h'.objs.size (.lst ((out.map SrtO.iv).map V.int)), I1.laid (t' := tk) (fun b u e => ?_) (Nat.le_refl _)
    (show ObjOk X.prog X.w _ _ _ (.lst ((out.map SrtO.iv).map V.int)) from ⟨hlen, out, e', vals_of_ints k1, he'⟩), rfl, q _ _ k2 k3 (I1.hok.fresh (Nat.le_refl _))⟩
  have hb : b < h'.objs.size := Heap.lt_size e
  rw [PyProof.Rows.sortedHeap_old (Nat.ne_of_lt hb) (by rw [size_push']; exact Nat.lt_succ_of_lt hb)]
  exact Heap.get?_push_of_some _ e
/-! dict(t) -/
abbrev pD (x : Int × Int) : D := .tuple [.int x.1, .int x.2]
theorem refs_pD {K : PySem.W.Frag} {H : Hp} : ∀ {ps : List (Int × Int)} {vs : List V}, DpAll K H vs (ps.map pD) → ∃ as : List Addr, vs = as.map V.ref ∧ Paired (fun p (x : Int × Int) => L2.SqT K H p [.int x.1, .int x.2]) as ps
  | [], _, h => by
    cases h
    exact ⟨[], rfl, .nil⟩
  | x :: ps, _, h => by
    cases h with
    | cons h1 h2 =>
      obtain ⟨as, rfl, hp⟩ := refs_pD h2
      cases h1 with
      | @tup a xs _ hs hd =>
        have : xs = [V.int x.1, V.int x.2] := DpAll.ints (ns := [x.1, x.2]) hd
        subst this
        exact ⟨a :: as, rfl, .cons hs.t hp⟩
theorem pairs_ofV {pins : List (Addr × Obj)} {σ : L2.St} {H : Hp} {s : Shared} (I : Inv X pins σ H s) : ∀ {as : List Addr} {ps : List (Int × Int)}, Paired (fun p (x : Int × Int) => L2.SqT X.K H p [.int x.1, .int x.2]) as ps →
    ∃ (prs : List (Key × Value)) (vv : List (Value × Value)), KV (ps.map kvV) prs ∧ prs.length = as.length ∧ vv.length = as.length ∧ ∀ (j : Nat) (k v : Value), vv[j]? = some (k, v) → ∃ (b : Addr) (key : Key), as[j]? = some b ∧ IsTup s.heap b #[k, v] ∧ prs[j]? = some (key, v) ∧ keyIs key k = true
  | _, _, .nil => ⟨[], [], .nil, rfl, rfl, fun j k v e => by simp at e⟩
  | _, _, .cons (a := p) (b := x) h t => by
    obtain ⟨prs, vv, r, h1, h2, h3⟩ := pairs_ofV I t
    obtain ⟨its, rv, ht, _⟩ := I.tuple h
    obtain ⟨u, y, ei, ru, ry⟩ := vals2 rv
    subst ei
    refine ⟨(Sum.inl x.1, y) :: prs, (u, y) :: vv, .cons ⟨rfl, ry⟩ r, by rw [List.length_cons, List.length_cons, h1], by rw [List.length_cons, List.length_cons, h2], fun j k v e => ?_⟩
    cases j with
    | zero =>
      have e : (u, y) = (k, v) := by simpa using e
      cases e
      exact ⟨p, Sum.inl x.1, rfl, ht, rfl, kV_is (P := X.prog) (w := X.w) (k := Sum.inl x.1) ru⟩
    | succ j =>
      obtain ⟨b, key, e1, e2, e3, e4⟩ := h3 j k v (by simpa using e)
      exact ⟨b, key, by simpa using e1, e2, by simpa using e3, e4⟩
def dictF (ps : List (Int × Int)) : List (Int × Int) := ps.foldl (fun kvs x => putI kvs x.1 x.2) []
def rDictT (K : PySem.W.Frag) : List V → Hp → VK → Prop := fun xs H Q => ∃ (a : Addr) (ps : List (Int × Int)), xs = [.ref a] ∧ Dp K H (.ref a) (.tuple (ps.map pD)) ∧ ps.length ≤ 100000 ∧ ∀ p, H p = none → Q (.ref p) (upd H p (.dK ((dictF ps).map kvV)))
theorem merge_kv : ∀ (ps acc : List (Int × Int)), mergeK (acc.map kvV) (ps.map kvV) = (ps.foldl (fun kvs x => putI kvs x.1 x.2) acc).map kvV
  | [], acc => rfl
  | x :: ps, acc => by
    rw [List.map_cons, List.foldl_cons, ← merge_kv ps, ← putK_kv]
    rfl
theorem cr_dictT (hc : X.calm = true) : CallR X (.type "dict") (rDictT X.K) := by
  intro pins s σ H xs us Q I r ⟨a, ps, ex, hp, hn, q⟩
  subst ex
  obtain ⟨u, rfl, rx⟩ := vals1 r
  cases rx
  cases hp with
  | @tup _ vs _ hs hd =>
  obtain ⟨as, rfl, hpr⟩ := refs_pD hd
  obtain ⟨its, hx⟩ := hs
  obtain ⟨hg, hz, its2, rv, o2, ho2, hc2, n2, hd2⟩ := (show ObjOk X.prog X.w H s.heap a (.frz (tupO its) (.tup (as.map V.ref))) from I.hok a _ hx)
  have e0 : tupO its = o2 := Option.some.inj (hg.symm.trans ho2)
  subst e0
  have ei : its.toArray = its2.toArray := by
    have : Data.seq its.toArray 0 = Data.seq its2.toArray n2 := hd2
    exact (Data.seq.inj this).1
  have ei : its = its2 := by simpa using congrArg Array.toList ei
  subst ei
  have er := refs_at rv
  subst er
  obtain ⟨prs, vv, rel, l1, l2, hv⟩ := pairs_ofV I hpr
  have lp : as.length = ps.length := Paired.length hpr
  refine PySem.call_dict_pairs (knd := mixKind X.prog X.w) (kvs := prs) (PySem.PairArg.tuple a (as.map Value.ref).toArray (fun j => as.getD j 0) vv) (I.ok.hd hc) ⟨⟨_, 0, hg, rfl, rfl, rfl⟩, by simp [l2], fun j k v e => ?_⟩ ⟨by omega, fun i key v e => ?_⟩ (by rw [l2, lp, sizeLine_eq]; omega) fun h' tk hd' hk => ?_
  · obtain ⟨b, key, e1, e2, _, _⟩ := hv j k v e
    dsimp only
    rw [List.getD_eq_getElem?_getD, e1]
    exact ⟨by simp [e1], .inl e2⟩
  · obtain ⟨b, k, _, _, e3, e4⟩ := hv i key v e
    exact ⟨k, e3, e4⟩
  · have hm : (s.heap.objs.size == sysModules) = false := beq_eq_false_iff_ne.mpr (Nat.ne_of_gt I.big)
    have me : mergeK [] (ps.map kvV) = (dictF ps).map kvV := merge_kv ps []
    have hlen : (mergeK [] (ps.map kvV)).length ≤ sizeLine := by
      refine Nat.le_trans (length_mergeK _ []) ?_
      rw [List.length_nil, Nat.zero_add, List.length_map, sizeLine_eq]
      omega
    rw [← me] at q
    exact ⟨.ref s.heap.objs.size, _, I.laid (t' := tk) (fun b o e => hk b o (by simp) e) (Nat.le_refl _) (show ObjOk X.prog X.w _ _ _ (.dK (mergeK [] (ps.map kvV))) from ⟨hlen, hm, merged [] prs, KV.merge rel .nil, hd'⟩), rfl, q _ (I.hok.fresh (Nat.le_refl _))⟩
end
section
variable {K : PySem.W.Frag} {Γ : G} {te : TE} {kvs ps : List (Int × Int)} {ms : List Int}
theorem up_unique : ∀ {a b : List Int}, a.Pairwise (· < ·) → b.Pairwise (· < ·) → (∀ k, k ∈ a ↔ k ∈ b) → a = b
  | [], [], _, _, _ => rfl
  | [], y :: ys, _, _, hk => absurd ((hk y).mpr List.mem_cons_self) (by simp)
  | x :: xs, [], _, _, hk => absurd ((hk x).mp List.mem_cons_self) (by simp)
  | x :: xs, y :: ys, ha, hb, hk => by
    rw [List.pairwise_cons] at ha hb
    have exy : x = y := by
      rcases List.mem_cons.mp ((hk x).mp List.mem_cons_self) with h1 | h1
      · exact h1
      · rcases List.mem_cons.mp ((hk y).mpr List.mem_cons_self) with h2 | h2
        · exact h2.symm
        · have := hb.1 x h1
          have := ha.1 y h2
          omega
    subst exy
    rw [up_unique ha.2 hb.2 fun k => ?_]
    have := hk k
    simp only [List.mem_cons] at this
    constructor
    · intro hk1
      rcases this.mp (.inr hk1) with h | h
      · have := ha.1 k hk1; omega
      · exact h
    · intro hk1
      rcases this.mpr (.inr hk1) with h | h
      · have := hb.1 k hk1; omega
      · exact h
/-- the keys, sorted -/
theorem ef_sortedD (h : EvR K te Γ (dI kvs)) (hn : kvs.length ≤ 100000) (hd : (kvs.map (·.1)).Nodup) (hp : ms.Pairwise (· < ·)) (hm : ∀ k, k ∈ ms ↔ k ∈ kvs.map (·.1)) : EvF K (tCB rSortedD (tCons te tNil)) Γ (ms.map .int) := fun σ H E Q q =>
  h σ H E _ fun v H1 e1 r1 => by
    obtain ⟨a, rfl, ha⟩ := r1.dict
    refine ⟨a, kvs, rfl, ha, hn, fun ys p hy hs hp' => ?_⟩
    have nd : ys.Nodup := hy.nodup_iff.mpr hd
    have up : ys.Pairwise (· < ·) := (List.pairwise_and_iff.mpr ⟨hs, nd⟩).imp fun {a b} ⟨h1, h2⟩ => by omega
    have e : ys = ms := up_unique up hp fun k => (hy.mem_iff).trans (hm k).symm
    subst e
    exact q p _ _ (fresh_back e1 hp') (e1.trans (Ex.new hp')) upd_same (DpAll.of_ints _)
theorem ed_dictT (h : EvR K te Γ (.tuple (ps.map pD))) (hn : ps.length ≤ 100000) : EvD K (tCB (rDictT K) (tCons te tNil)) Γ (dictF ps) := fun σ H E Q q =>
  h σ H E _ fun v H1 e1 r1 => by
    obtain ⟨a, vs, rfl, _, _⟩ := r1.tup
    exact ⟨a, ps, rfl, r1.dp rfl, hn, fun p hp => q p _ (fresh_back e1 hp) (e1.trans (Ex.new hp)) upd_same⟩
end
theorem dictT_K {X : Cx} (K : PySem.W.Frag) (h : X.K = K) (hc : X.calm = true) : CallR X (.type "dict") (rDictT K) := h ▸ cr_dictT hc
end KW

set_option Elab.async false
set_option linter.all false
set_option maxRecDepth 100000
set_option maxHeartbeats 4000000
/-! series in plain Lean: gathered, quick -/
namespace SE
open KW
abbrev Ser := List (Int × Int)
def insU (x : Int) : List Int → List Int
  | [] => [x]
  | y :: ys => if x < y then x :: y :: ys else if x = y then y :: ys else y :: insU x ys
def sortU : List Int → List Int
  | [] => []
  | x :: xs => insU x (sortU xs)
theorem mem_insU (x k : Int) : ∀ ys, k ∈ insU x ys ↔ k = x ∨ k ∈ ys
  | [] => by simp [insU]
  | y :: ys => by
    unfold insU
    split
    · simp
    · split
      · rename_i h; subst h; simp
      · simp only [List.mem_cons, mem_insU x k ys]
        constructor
        · rintro (h | h | h)
          · exact .inr (.inl h)
          · exact .inl h
          · exact .inr (.inr h)
        · rintro (h | h | h)
          · exact .inr (.inl h)
          · exact .inl h
          · exact .inr (.inr h)
theorem insU_up (x : Int) : ∀ ys : List Int, ys.Pairwise (· < ·) → (insU x ys).Pairwise (· < ·)
  | [], _ => by simp [insU]
  | y :: ys, h => by
    rw [List.pairwise_cons] at h
    unfold insU
    split
    · rename_i hx
      rw [List.pairwise_cons, List.pairwise_cons]
      refine ⟨fun z hz => ?_, h⟩
      rcases List.mem_cons.mp hz with hz | hz
      · omega
      · have := h.1 z hz; omega
    · split
      · rw [List.pairwise_cons]; exact h
      · rw [List.pairwise_cons]
        refine ⟨fun z hz => ?_, insU_up x ys h.2⟩
        rcases (mem_insU x z ys).mp hz with hz | hz
        · omega
        · exact h.1 z hz
theorem mem_sortU (k : Int) : ∀ xs, k ∈ sortU xs ↔ k ∈ xs
  | [] => by simp [sortU]
  | x :: xs => by rw [sortU, mem_insU, mem_sortU k xs, List.mem_cons]
theorem sortU_up : ∀ xs, (sortU xs).Pairwise (· < ·)
  | [] => List.Pairwise.nil
  | x :: xs => insU_up x _ (sortU_up xs)
/-- the sum at one power -/
def coef : Ser → Int → Int
  | [], _ => 0
  | r :: rows, k => (if r.1 = k then r.2 else 0) + coef rows k
theorem coef_none : ∀ (rows : Ser) (k : Int), k ∉ rows.map (·.1) → coef rows k = 0
  | [], _, _ => rfl
  | r :: rows, k, h => by
    simp only [List.map_cons, List.mem_cons, not_or] at h
    rw [coef, if_neg (fun z => h.1 z.symm), coef_none rows k h.2]
    rfl
def insA (k x : Int) : Ser → Ser
  | [] => [(k, x)]
  | (j, y) :: t => if k < j then (k, x) :: (j, y) :: t else if k = j then (j, x + y) :: t else (j, y) :: insA k x t
def rawF : Ser → Ser
  | [] => []
  | r :: rows => insA r.1 r.2 (rawF rows)
def gF (rows : Ser) : Ser := (rawF rows).filter fun r => !decide (r.2 = 0)
theorem insA_eq (k x : Int) (c : Int → Int) : ∀ ks : List Int, ks.Pairwise (· < ·) → (k ∉ ks → c k = 0) → insA k x (ks.map fun j => (j, c j)) = (insU k ks).map fun j => (j, (if k = j then x else 0) + c j)
  | [], _, h0 => by
    have := h0 (by simp)
    simp [insA, insU, this]
  | j :: ks, hp, h0 => by
    rw [List.pairwise_cons] at hp
    rw [List.map_cons]
    unfold insA insU
    have tail : ∀ ks : List Int, (∀ i ∈ ks, k ≠ i) → (ks.map fun j => (j, c j)) = ks.map fun j => (j, (if k = j then x else 0) + c j) := fun ks h => List.map_congr_left fun i hi => by rw [if_neg (h i hi), Int.zero_add]
    by_cases c1 : k < j
    · have hn : k ∉ j :: ks := by
        intro z
        rcases List.mem_cons.mp z with z | z
        · omega
        · have := hp.1 k z; omega
      rw [if_pos c1, if_pos c1, List.map_cons, List.map_cons, if_pos rfl, h0 hn, Int.add_zero, if_neg (by omega), Int.zero_add, tail ks (fun i hi z => by have := hp.1 i hi; omega)]
    · by_cases c2 : k = j
      · subst c2
        rw [if_neg c1, if_pos rfl, if_neg c1, if_pos rfl, List.map_cons, if_pos rfl, tail ks (fun i hi z => by have := hp.1 i hi; omega)]
      · rw [if_neg c1, if_neg c2, if_neg c1, if_neg c2, List.map_cons, if_neg c2, Int.zero_add, insA_eq k x c ks hp.2 (fun z => h0 (by simp [c2, z]))]
theorem raw_eq : ∀ rows : Ser, rawF rows = (sortU (rows.map (·.1))).map fun k => (k, coef rows k)
  | [] => rfl
  | r :: rows => by
    rw [rawF, raw_eq rows, insA_eq r.1 r.2 (coef rows) _ (sortU_up _) (fun h => coef_none rows r.1 (fun z => h ((mem_sortU _ _).mpr z)))]
    rfl
/-! the dict -/
def gStep (kvs : List (Int × Int)) (r : Int × Int) : List (Int × Int) := putI kvs r.1 ((lookI kvs r.1).getD 0 + r.2)
def gDict (rows : Ser) : List (Int × Int) := rows.foldl gStep []
theorem look_put (k v j : Int) : ∀ kvs : List (Int × Int), lookI (putI kvs k v) j = if j = k then some v else lookI kvs j := by
  intro kvs
  unfold putI
  by_cases h : (kvs.any fun p => decide (p.1 = k)) = true
  · rw [if_pos h]
    induction kvs with
    | nil => simp at h
    | cons p t ih =>
      unfold lookI at ih ⊢
      rw [List.map_cons, List.find?_cons, List.find?_cons]
      by_cases hp : p.1 = k
      · rw [if_pos hp]
        by_cases hj : j = k
        · subst hj; simp [hp]
        · have hpj : ¬ p.1 = j := fun z => hj (by rw [← z, hp])
          rw [if_neg hj]
          simp only [hpj, decide_false]
          by_cases ht : (t.any fun p => decide (p.1 = k)) = true
          · have := ih ht
            rw [if_neg hj] at this
            exact this
          · have : (t.map fun p => if p.1 = k then (p.1, v) else p) = t := by
              rw [List.map_congr_left (g := id) fun q hq => ?_, List.map_id]
              have : ¬ q.1 = k := fun z => ht (List.any_eq_true.mpr ⟨q, hq, by simpa using z⟩)
              rw [if_neg this]
              rfl
            rw [this]
      · rw [if_neg hp]
        have ht : (t.any fun p => decide (p.1 = k)) = true := by simpa [hp] using h
        by_cases hpj : p.1 = j
        · have hj : ¬ j = k := fun z => hp (by rw [hpj, z])
          simp [hpj, hj]
        · simp only [hpj, decide_false]
          exact ih ht
  · rw [if_neg h]
    unfold lookI
    rw [List.find?_append]
    by_cases hj : j = k
    · subst hj
      have : kvs.find? (fun p => decide (p.1 = j)) = none := by
        rw [List.find?_eq_none]
        intro q hq z
        exact h (List.any_eq_true.mpr ⟨q, hq, z⟩)
      rw [this, if_pos rfl]
      simp
    · rw [if_neg hj]
      have : [(k, v)].find? (fun p => decide (p.1 = j)) = none := by
        simp
        exact fun z => hj z.symm
      rw [this, Option.or_none]
theorem keys_put (k v j : Int) (kvs : List (Int × Int)) : j ∈ (putI kvs k v).map (·.1) ↔ j = k ∨ j ∈ kvs.map (·.1) := by
  unfold putI
  by_cases h : (kvs.any fun p => decide (p.1 = k)) = true
  · rw [if_pos h]
    have e : (kvs.map fun p => if p.1 = k then (p.1, v) else p).map (·.1) = kvs.map (·.1) := by
      rw [List.map_map]
      refine List.map_congr_left fun p _ => ?_
      show (if p.1 = k then (p.1, v) else p).1 = p.1
      split <;> rfl
    rw [e]
    constructor
    · exact .inr
    · rintro (rfl | h')
      · obtain ⟨q, hq, z⟩ := List.any_eq_true.mp h
        exact List.mem_map.mpr ⟨q, hq, by simpa using z⟩
      · exact h'
  · rw [if_neg h]
    simp only [List.map_append, List.map_cons, List.map_nil, List.mem_append, List.mem_singleton]
    exact Or.comm
theorem nodup_put (k v : Int) {kvs : List (Int × Int)} (hn : (kvs.map (·.1)).Nodup) : ((putI kvs k v).map (·.1)).Nodup := by
  unfold putI
  by_cases h : (kvs.any fun p => decide (p.1 = k)) = true
  · rw [if_pos h]
    have e : (kvs.map fun p => if p.1 = k then (p.1, v) else p).map (·.1) = kvs.map (·.1) := by
      rw [List.map_map]
      refine List.map_congr_left fun p _ => ?_
      show (if p.1 = k then (p.1, v) else p).1 = p.1
      split <;> rfl
    rw [e]
    exact hn
  · rw [if_neg h, List.map_append]
    refine List.nodup_append.mpr ⟨hn, by simp, fun a ha b hb => ?_⟩
    have hb : b = k := by simpa using hb
    subst hb
    rintro rfl
    obtain ⟨q, hq, z⟩ := List.mem_map.mp ha
    exact h (List.any_eq_true.mpr ⟨q, hq, by simpa using z⟩)
theorem dict_fold : ∀ (rows : Ser) (acc : List (Int × Int)), (acc.map (·.1)).Nodup →
    ((rows.foldl gStep acc).map (·.1)).Nodup ∧ (∀ k, k ∈ (rows.foldl gStep acc).map (·.1) ↔ k ∈ acc.map (·.1) ∨ k ∈ rows.map (·.1)) ∧ ∀ k, (lookI (rows.foldl gStep acc) k).getD 0 = (lookI acc k).getD 0 + coef rows k
  | [], acc, h => ⟨h, fun k => by simp, fun k => by rw [coef, Int.add_zero]; rfl⟩
  | r :: rows, acc, h => by
    obtain ⟨h1, h2, h3⟩ := dict_fold rows (gStep acc r) (nodup_put _ _ h)
    refine ⟨h1, fun k => ?_, fun k => ?_⟩
    · rw [List.foldl_cons, h2, gStep, keys_put, List.map_cons, List.mem_cons]
      constructor
      · rintro ((a | a) | a)
        · exact .inr (.inl a)
        · exact .inl a
        · exact .inr (.inr a)
      · rintro (a | a | a)
        · exact .inl (.inr a)
        · exact .inl (.inl a)
        · exact .inr a
    · rw [List.foldl_cons, h3, gStep, look_put, coef]
      by_cases c : k = r.1
      · subst c
        rw [if_pos rfl, if_pos rfl, Option.getD_some]
        omega
      · rw [if_neg c, if_neg (fun z => c z.symm)]
        omega
theorem dict_ok (rows : Ser) : ((gDict rows).map (·.1)).Nodup ∧ (∀ k, k ∈ (gDict rows).map (·.1) ↔ k ∈ rows.map (·.1)) ∧ ∀ k, (lookI (gDict rows) k).getD 0 = coef rows k := by
  obtain ⟨h1, h2, h3⟩ := dict_fold rows [] (by simp)
  refine ⟨h1, fun k => ?_, fun k => ?_⟩
  · show k ∈ (rows.foldl gStep []).map (·.1) ↔ _
    rw [h2]
    simp
  · show (lookI (rows.foldl gStep []) k).getD 0 = _
    rw [h3]
    show 0 + coef rows k = _
    omega
theorem look_some {kvs : List (Int × Int)} {k : Int} (h : k ∈ kvs.map (·.1)) : lookI kvs k = some ((lookI kvs k).getD 0) := by
  cases e : lookI kvs k with
  | some v => rfl
  | none =>
    unfold lookI at e
    rw [Option.map_eq_none_iff, List.find?_eq_none] at e
    obtain ⟨q, hq, rfl⟩ := List.mem_map.mp h
    exact absurd (e q hq) (by simp)
theorem gF_eq (rows : Ser) : ((sortU (rows.map (·.1))).filter fun k => !decide ((lookI (gDict rows) k).getD 0 = 0)).map (fun k => (k, (lookI (gDict rows) k).getD 0)) = gF rows := by
  obtain ⟨_, _, h3⟩ := dict_ok rows
  unfold gF
  rw [raw_eq, List.filter_map]
  simp only [h3]
  rfl
theorem dict_length (rows : Ser) : (gDict rows).length ≤ rows.length := by
  have : ∀ (rows : Ser) (acc : List (Int × Int)), (rows.foldl gStep acc).length ≤ acc.length + rows.length := by
    intro rows
    induction rows with
    | nil => intro acc; exact Nat.le_refl _
    | cons r rows ih =>
      intro acc
      have h1 := ih (gStep acc r)
      have h2 : (gStep acc r).length ≤ acc.length + 1 := putI_length _ _ _
      rw [List.foldl_cons, List.length_cons]
      omega
  have := this rows []
  rw [List.length_nil, Nat.zero_add] at this
  exact this
end SE

set_option Elab.async false
set_option linter.all false
set_option maxRecDepth 100000
set_option maxHeartbeats 4000000
namespace SE
open KW
def timesF (s : Ser) (c : Int) : Ser := gF (s.map fun x => (x.1, c * x.2))
def mulR (a b : Ser) : Ser := a.flatMap fun j => b.map fun k => (j.1 + k.1, j.2 * k.2)
def mulF (a b : Ser) : Ser := gF (mulR a b)
def lessF (a b : Ser) : Ser := gF (a ++ timesF b (-1))
def widthF (s : Ser) : Int := match s with
  | [] => 0
  | x :: t => ((x :: t).getLastD (0, 0)).1 - x.1
def valF (s : Ser) (n : Int) : Int := (s.map fun x => if n = 1 ∨ x.1 % 2 = 0 then x.2 else -x.2).sum
def evenS (n : Int) : Ser := (rgI 0 n.toNat).map fun k => (k, 1)
def bd (s : Ser) : Bool := s.all (fun x => decide (-1000 ≤ x.1 ∧ x.1 ≤ 1000 ∧ -1000 ≤ x.2 ∧ x.2 ≤ 1000)) && decide (s.length ≤ 200)
theorem bd_at {s : Ser} (h : bd s = true) : (∀ x ∈ s, -1000 ≤ x.1 ∧ x.1 ≤ 1000 ∧ -1000 ≤ x.2 ∧ x.2 ≤ 1000) ∧ s.length ≤ 200 := by
  simp only [bd, Bool.and_eq_true, decide_eq_true_eq, List.all_eq_true] at h
  exact h
theorem insA_length (k x : Int) : ∀ t : Ser, (insA k x t).length ≤ t.length + 1
  | [] => Nat.le_refl _
  | (j, y) :: t => by
    unfold insA
    split
    · exact Nat.le_refl _
    · split
      · simp
      · have := insA_length k x t
        simp only [List.length_cons]
        omega
theorem raw_length : ∀ rows : Ser, (rawF rows).length ≤ rows.length
  | [] => Nat.le_refl _
  | r :: rows => by
    have h1 := insA_length r.1 r.2 (rawF rows)
    have h2 := raw_length rows
    show (insA r.1 r.2 (rawF rows)).length ≤ rows.length + 1
    omega
theorem gF_length (rows : Ser) : (gF rows).length ≤ rows.length := Nat.le_trans (List.length_filter_le _ _) (raw_length rows)
def divF : Nat → Ser → Ser → Ser → Option Ser
  | 0, _, _, _ => none
  | f + 1, left, found, two => match left with
    | [] => some found
    | _ :: _ =>
      let lc := left.getLastD (0, 0)
      let tc := two.getLastD (0, 0)
      let part := gF [(lc.1 - tc.1, lc.2 / tc.2)]
      if bd left && bd found && decide (0 < tc.2) && decide (lc.2 % tc.2 = 0) && decide (widthF two ≤ widthF left) && bd part && bd (mulF part two) then
        divF f (lessF left (mulF part two)) (gF (found ++ part)) two
      else none
def torF (p q : Int) : Option Ser := match divF 200 (evenS (p * q)) [] (evenS p) with
  | none => none
  | some r => divF 200 r [] (evenS q)
set_option maxHeartbeats 0 in
theorem t910 : (torF 9 10).isSome = true := by decide +kernel
end SE

set_option Elab.async false
set_option linter.all false
set_option maxRecDepth 100000
set_option maxHeartbeats 8000000
namespace K71
open PySem PySem.Spec PyProof.Rows L2 KW SE
def topS (i : Nat) : Stmt := PySem.Challenge.pw_knotwright_k71_whole_ring_links_reckoned.main.body.getD i (.Pass ⟨0, 0, 0, 0⟩)
abbrev s_is_whole : Stmt := topS 1
theorem sc_is_whole : FnScope ["value"] ["value"] (defScope s_is_whole) := ⟨rfl, rfl, rfl, by decide +kernel, rfl, by decide +kernel, by decide +kernel⟩
abbrev s_is_series : Stmt := topS 3
theorem sc_is_series : FnScope ["value", "row", "k"] ["value"] (defScope s_is_series) := ⟨rfl, rfl, rfl, by decide +kernel, rfl, by decide +kernel, by decide +kernel⟩
abbrev s_gathered : Stmt := topS 4
theorem sc_gathered : FnScope ["rows", "found", "power", "number"] ["rows"] (defScope s_gathered) := ⟨rfl, rfl, rfl, by decide +kernel, rfl, by decide +kernel, by decide +kernel⟩
abbrev s_single : Stmt := topS 5
theorem sc_single : FnScope ["power", "number"] ["power", "number"] (defScope s_single) := ⟨rfl, rfl, rfl, by decide +kernel, rfl, by decide +kernel, by decide +kernel⟩
abbrev s_add : Stmt := topS 6
theorem sc_add : FnScope ["one", "two"] ["one", "two"] (defScope s_add) := ⟨rfl, rfl, rfl, by decide +kernel, rfl, by decide +kernel, by decide +kernel⟩
abbrev s_less : Stmt := topS 7
theorem sc_less : FnScope ["one", "two"] ["one", "two"] (defScope s_less) := ⟨rfl, rfl, rfl, by decide +kernel, rfl, by decide +kernel, by decide +kernel⟩
abbrev s_times : Stmt := topS 8
theorem sc_times : FnScope ["series", "number", "power", "x"] ["series", "number"] (defScope s_times) := ⟨rfl, rfl, rfl, by decide +kernel, rfl, by decide +kernel, by decide +kernel⟩
abbrev s_multiply : Stmt := topS 9
theorem sc_multiply : FnScope ["one", "two", "j", "x", "k", "y"] ["one", "two"] (defScope s_multiply) := ⟨rfl, rfl, rfl, by decide +kernel, rfl, by decide +kernel, by decide +kernel⟩
abbrev s_value_at : Stmt := topS 10
theorem sc_value_at : FnScope ["series", "number", "power", "x"] ["series", "number"] (defScope s_value_at) := ⟨rfl, rfl, rfl, by decide +kernel, rfl, by decide +kernel, by decide +kernel⟩
abbrev s_width : Stmt := topS 11
theorem sc_width : FnScope ["series"] ["series"] (defScope s_width) := ⟨rfl, rfl, rfl, by decide +kernel, rfl, by decide +kernel, by decide +kernel⟩
abbrev s_divided : Stmt := topS 12
theorem sc_divided : FnScope ["one", "two", "left", "found", "part"] ["one", "two"] (defScope s_divided) := ⟨rfl, rfl, rfl, by decide +kernel, rfl, by decide +kernel, by decide +kernel⟩
abbrev s_torus_alexander : Stmt := topS 14
theorem sc_torus_alexander : FnScope ["p", "q", "found"] ["p", "q"] (defScope s_torus_alexander) := ⟨rfl, rfl, rfl, by decide +kernel, rfl, by decide +kernel, by decide +kernel⟩
abbrev s_even_sum : Stmt := topS 15
theorem sc_even_sum : FnScope ["n", "k"] ["n"] (defScope s_even_sum) := ⟨rfl, rfl, rfl, by decide +kernel, rfl, by decide +kernel, by decide +kernel⟩
abbrev s_surface_of_torus : Stmt := topS 16
theorem sc_surface_of_torus : FnScope ["p", "q"] ["p", "q"] (defScope s_surface_of_torus) := ⟨rfl, rfl, rfl, by decide +kernel, rfl, by decide +kernel, by decide +kernel⟩
abbrev s_is_even_both_ways : Stmt := topS 18
theorem sc_is_even_both_ways : FnScope ["series", "numbers", "_", "x"] ["series"] (defScope s_is_even_both_ways) := ⟨rfl, rfl, rfl, by decide +kernel, rfl, by decide +kernel, by decide +kernel⟩
abbrev s_filled : Stmt := topS 19
theorem sc_filled : FnScope ["series", "found", "k"] ["series"] (defScope s_filled) := ⟨rfl, rfl, rfl, by decide +kernel, rfl, by decide +kernel, by decide +kernel⟩
abbrev s__law_cell : Stmt := topS 21
theorem sc__law_cell : FnScope ["script", "k"] ["script", "k"] (defScope s__law_cell) := ⟨rfl, rfl, rfl, by decide +kernel, rfl, by decide +kernel, by decide +kernel⟩
abbrev s__law_draws : Stmt := topS 22
theorem sc__law_draws : FnScope ["cell", "amount", "rows", "left", "k", "blended"] ["cell", "amount"] (defScope s__law_draws) := ⟨rfl, rfl, rfl, by decide +kernel, rfl, by decide +kernel, by decide +kernel⟩
abbrev s__law_pool : Stmt := topS 23
theorem sc__law_pool : FnScope ["script", "rows", "k"] ["script"] (defScope s__law_pool) := ⟨rfl, rfl, rfl, by decide +kernel, rfl, by decide +kernel, by decide +kernel⟩
abbrev s__law_pick : Stmt := topS 24
theorem sc__law_pick : FnScope ["pool", "amount", "at", "turn"] ["pool", "amount"] (defScope s__law_pick) := ⟨rfl, rfl, rfl, by decide +kernel, rfl, by decide +kernel, by decide +kernel⟩
abbrev s__law_gcd : Stmt := topS 25
theorem sc__law_gcd : FnScope ["a", "b"] ["a", "b"] (defScope s__law_gcd) := ⟨rfl, rfl, rfl, by decide +kernel, rfl, by decide +kernel, by decide +kernel⟩
abbrev s_law : Stmt := topS 26
theorem sc_law : FnScope ["script", "pool", "p", "q", "found", "wide", "due", "numbers", "total", "k", "made", "low", "high", "j"] ["script"] (defScope s_law) := ⟨rfl, rfl, rfl, by decide +kernel, rfl, by decide +kernel, by decide +kernel⟩
local macro_rules | `(tactic| walk_at "ev") => `(tactic| repeat' (first
  | with_reducible exact ev_int | with_reducible exact ev_str | with_reducible exact ev_bool | with_reducible exact ev_none
  | ((with_reducible apply ev_var); exact rfl)
  | with_reducible exact rv_add | with_reducible exact rv_sub | with_reducible exact rv_lt | with_reducible exact rv_le | with_reducible exact rv_gt | with_reducible exact rv_ge
  | with_reducible exact rv_eqI | with_reducible exact rv_neI | with_reducible exact rv_eqB | with_reducible exact rv_neB | with_reducible exact rv_eqT | with_reducible exact rv_neT | with_reducible exact rv_eqLI | with_reducible exact rv_neLI
  | with_reducible exact rv_isB | with_reducible exact rv_notB | with_reducible exact rv_inLI | with_reducible exact rv_inTI | with_reducible exact rv_niLI | with_reducible exact rv_niTI
  | ((with_reducible apply rv_eqS) <;> decide +kernel) | ((with_reducible apply rv_neS) <;> decide +kernel)
  | with_reducible apply rv_mul | with_reducible apply rv_mod | with_reducible apply rv_fdiv | with_reducible apply rv_pow | with_reducible apply rv_ixTI | with_reducible apply rv_ixLI | with_reducible apply rv_ixT | with_reducible apply rv_ixL | with_reducible apply rv_addT
  | with_reducible exact ru_neg
  | with_reducible exact rc_abs | with_reducible exact rc_max | with_reducible exact rc_min | with_reducible exact rc_minT | with_reducible exact rc_intI | with_reducible exact rc_intB | with_reducible exact rc_lenTI | with_reducible exact rc_lenLI | with_reducible exact rc_lenT | with_reducible exact rc_lenL | with_reducible exact rc_tupL | with_reducible exact rc_tupT | with_reducible exact rc_sum | with_reducible exact rc_all
  | with_reducible apply ev_opR
  | with_reducible apply ev_isiR
  | with_reducible exact isi_int | with_reducible exact isi_int_bool | with_reducible exact isi_tup | with_reducible exact isi_str
  | with_reducible apply ev_cbR
  | with_reducible apply KW.ev_un
  | with_reducible apply ev_tupR
  | ((with_reducible show okT _ = true); exact rfl)
  | with_reducible apply ev_revD
  | with_reducible exact RevD.lst _ | with_reducible exact RevD.tup _
  | with_reducible apply ev_slD
  | with_reducible exact SlD.lst _ | with_reducible exact SlD.tup _
  | with_reducible apply ef_lstR
  | with_reducible apply KW.ef_call
  | with_reducible apply KW.ef_addX_L
  | with_reducible apply KW.ef_listRg1 | with_reducible apply KW.ev_tupRg1 | with_reducible apply KW.ev_tupRg2
  | with_reducible apply ep_some
  | with_reducible exact ep_none
  | with_reducible apply KW.eb_test
  | with_reducible apply KW.eb_B
  | with_reducible apply KW.eb_not
  | with_reducible apply KW.ev_not
  | with_reducible exact eas_nil
  | with_reducible apply eas_cons
  | with_reducible apply KW.eb_and
  | with_reducible apply KW.eb_or
  | with_reducible apply KW.ev_and
  | with_reducible apply KW.ev_or
  | with_reducible apply KW.ev_chain
  | with_reducible apply KW.ev_call | with_reducible apply KW.ev_callF
  | walk_at "fr"
  | with_reducible refine fun (_ : _ = true) => ?_
  | with_reducible refine fun (_ : _ = false) => ?_))
local macro_rules | `(tactic| walk_at "sd") => `(tactic| first
  | assumption | omega | exact rfl | exact noL_tI _ | exact noLs_ints _ | exact Nat.le_of_ble_eq_true rfl
  | (refine Or.inl ⟨?_, ?_⟩ <;> omega) | (refine Or.inr ⟨?_, ?_⟩ <;> omega) | (refine And.intro ?_ ?_ <;> omega) | exact ⟨by omega, by omega, by decide⟩
  | exact ⟨_, _, rfl, rfl⟩)
local macro_rules | `(tactic| walk_at "set") => `(tactic| (apply run_seq; apply run_setR; (focus walk_at "ev"); all_goals (try walk_at "sd"); try dsimp only [List.set]))
local macro_rules | `(tactic| walk_at "setF") => `(tactic| (apply run_seq; apply run_setF; (focus walk_at "ev"); all_goals (try walk_at "sd"); try dsimp only [List.set]))
local macro_rules | `(tactic| walk_at "if") => `(tactic| (apply run_seq; apply run_if; (focus walk_at "ev"); all_goals (try walk_at "sd")))
local macro_rules | `(tactic| walk_at "if1") => `(tactic| (apply run_if; (focus walk_at "ev"); all_goals (try walk_at "sd")))
local macro_rules | `(tactic| walk_at "ret") => `(tactic| (apply ret_R; apply EvR.to; (focus walk_at "ev"); all_goals (try walk_at "sd")))
local macro_rules | `(tactic| walk_at "app") => `(tactic| (apply run_app; exact rfl; (focus walk_at "ev"); all_goals (try walk_at "sd"); try dsimp only [List.set]))
local macro_rules | `(tactic| walk_at "fr") => `(tactic| first | exact ⟨_, _, rfl, by omega, rfl⟩ | exact ⟨_, rfl, rfl⟩ | exact ⟨_, _, rfl, rfl⟩ | exact ⟨_, _, _, rfl, rfl⟩)

section
variable {P : Program} {w : World} {K : PySem.W.Frag} {mg : Str → Option Value} {base : Heap}
abbrev sD (s : Ser) : D := .tuple (s.map pD)
theorem noL_pD (x : Int × Int) : noL (pD x) = true := rfl
theorem noLs_pD (s : Ser) : noLs (s.map pD) = true := noLs_map s noL_pD
theorem noL_sD (s : Ser) : noL (sD s) = true := noLs_pD s
theorem filt {α β : Type} (xs : List α) (g : α → β) : (xs.filter fun _ => true).map g = xs.map g := by rw [List.filter_eq_self.mpr (fun _ _ => rfl)]
/-! gathered -/
def frGath : List D → D → Prop := fun ds d => ∃ rows : Ser, (ds = [sD rows] ∨ ds = [.list (rows.map pD)]) ∧ rows.length ≤ 5000 ∧ d = sD (gF rows)
theorem ok_gathered {f : Addr} {fd : FuncData} (F : Fun K "gathered" "gathered" s_gathered f fd) (m : Bl mg) : FnOk P w K mg base CX0 1 f fd ["rows"] (spR K frGath) := by
  refine def_R F sc_gathered frGath (fun ds d ⟨_, h, _⟩ => by rcases h with h | h <;> rw [h] <;> rfl) fun cdv A outer s H E hr => ?_
  have hu : (A.deeper (envOfC "gathered" (defScope s_gathered) s.heap.objs.size f cdv)).units + 1 < cLine := by
    have := hr.un
    omega
  refine ⟨_, (pss_cons (ps_set (i := 1) sc_gathered.nd rfl (.inr rfl) pe_dnewK)
        (pss_cons (ps_for PassesOwn.never rfl (seq_K K rfl (pv 0)) (tup_K K rfl rfl (pgs_cons (pg_name (i := 2) sc_gathered.nd rfl (Or.inl rfl)) (pgs_cons (pg_name (i := 3) sc_gathered.nd rfl (Or.inl rfl)) pgs_nil))) (pss_one (ps_dput hu (pv 1) (pv 2) (pe_op (op_addK K rfl) (pe_dget2 hu (pv 1) (pv 2) pe_int ⟨rfl, rfl, rfl, rfl⟩) (pv 3)) rfl)))
        (pss_one (ps_ret (pe_callTy (tupOf_K K rfl) (by rfl) m.tuple (by decide +kernel) (pa_cons (pe_lc (own := [("power", 2)]) rfl sc_gathered.nd (seq_K K rfl (pe_callB (cr_sortedD rfl) (by rfl) m.sorted (by decide +kernel) (pa_cons (pv 1) pa_nil))) (blkOk_by (N := ["rows", "found", "power", "number"]) (sc := defScope s_gathered) (by decide +kernel)) (fun _ _ _ _ _ => (pg_name (i := 2) sc_gathered.nd rfl (Or.inl rfl))) (fun _ _ _ _ _ => (pts_one (pt_cmpR (op_neK K rfl hr.units) (pe_dget hu (pv 1) (pv 2) (fun _ _ => rfl)) pe_int (nomark _)))) (fun _ _ _ _ _ => (KW.pe_tup (pa_cons (pv 2) (pa_cons (pe_dget hu (pv 1) (pv 2) (fun _ _ => rfl)) pa_nil))))) pa_nil)))))), fun ds d ⟨rows, h1, hl, h2⟩ B => ?_⟩
  subst h2
  try dsimp only [cxOf, Cx.nox, Cx.wish]
  obtain ⟨d0, h1, hit⟩ : ∃ d0 : D, ds = [d0] ∧ ∀ S : SS, S[0]? = some (.im d0) → EvItS K (iSeq K (tVar 0)) S (rows.map pD) := by
    rcases h1 with h1 | h1
    · exact ⟨_, h1, fun S hS => its_seqT (ev_var (by unfold gm; rw [List.getElem?_map, hS]; rfl)) (noLs_pD rows)⟩
    · exact ⟨_, h1, fun S hS => its_seqV hS⟩
  subst h1
  change Run K B _ [.im d0, .no, .no, .no] _
  refine run_seq (run_setD ed_new (Nat.le_of_ble_eq_true rfl) ?_)
  dsimp only [List.set]
  refine run_seq (run_for_fold rows pD (fun x => [(2, .int x.1), (3, .int x.2)]) (hit _ rfl) (fun _ _ => tg_tup (tgl_cons tg_name (tgl_cons tg_name tgl_nil)) rfl)
    (fun kvs S' => ∃ e2 e3, S' = [.im d0, .dk kvs, e2, e3]) gStep [] ⟨_, _, rfl⟩ ?_ ?_ ?_)
  · rintro kvs x S' _ ⟨e2, e3, rfl⟩ p hp
    simp only [List.mem_cons, List.not_mem_nil, or_false] at hp
    rcases hp with rfl | rfl <;> exact Nat.le_of_ble_eq_true rfl
  · rintro i kvs x S' hx hb ⟨e2, e3, rfl⟩
    have hk : kvs.length ≤ 5000 := by
      rw [hb]
      have := dict_length (rows.take i)
      rw [List.length_take] at this
      exact Nat.le_trans this (by omega)
    change Run K B _ [.im d0, .dk kvs, .im (.int x.1), .im (.int x.2)] _
    refine run_dput (i := 1) (kvs := kvs) (k := x.1) (x := (lookI kvs x.1).getD 0 + x.2) rfl (ev_opR (ev_dget2 (ev_var rfl) (ev_var rfl) ev_int) (ev_var rfl) rv_add) (ev_var rfl) (by omega) ?_
    exact ⟨_, _, rfl⟩
  · rintro S' ⟨e2, e3, rfl⟩
    change Run K B _ [.im d0, .dk (gDict rows), e2, e3] _
    obtain ⟨o1, o2, o3⟩ := dict_ok rows
    have hdl := dict_length rows
    have hks : ∀ k, k ∈ sortU (rows.map (·.1)) ↔ k ∈ (gDict rows).map (·.1) := fun k => by rw [mem_sortU, o2]
    have hsl : (sortU (rows.map (·.1))).length ≤ 5000 := by
      have : ∀ xs : List Int, (sortU xs).length ≤ xs.length := by
        intro xs
        induction xs with
        | nil => exact Nat.le_refl _
        | cons x xs ih =>
          have : ∀ (x : Int) (ys : List Int), (insU x ys).length ≤ ys.length + 1 := by
            intro x ys
            induction ys with
            | nil => exact Nat.le_refl _
            | cons y ys ih =>
              unfold insU
              split
              · exact Nat.le_refl _
              · split
                · simp
                · simp only [List.length_cons]; omega
          have h1 := this x (sortU xs)
          show (insU x (sortU xs)).length ≤ xs.length + 1
          omega
      have := this (rows.map (·.1))
      rw [List.length_map] at this
      omega
    refine ret_R (EvR.to (ev_cbR (ds := [.list (((sortU (rows.map (·.1))).filter fun k => !decide ((lookI (gDict rows) k).getD 0 = 0)).map fun k => pD (k, (lookI (gDict rows) k).getD 0))]) (eas_cons (EvF.r (ef_lc (sortU (rows.map (·.1))) .int (fun k => [(2, .int k)]) (fun k => !decide ((lookI (gDict rows) k).getD 0 = 0)) (fun k => pD (k, (lookI (gDict rows) k).getD 0))
      (it_seqL (EvF.r (ef_sortedD (kvs := gDict rows) (ev_var rfl) (by omega) o1 (sortU_up _) hks))) (fun _ _ => tg_name) (fun _ _ p hp => by
        rw [List.mem_singleton.mp hp]; simp) (fun k hk => ?_) (fun k hk _ => em_R rfl ?_) (by omega))) eas_nil) rc_tupL) ?_)
    · exact KW.eb_test (ev_opR (ev_dget (ev_var rfl) (ev_var rfl) (look_some ((hks k).mp hk))) ev_int rv_neI)
    · exact ev_tupR (eas_cons (ev_var rfl) (eas_cons (ev_dget (ev_var rfl) (ev_var rfl) (look_some ((hks k).mp hk))) eas_nil)) rfl
    · show PyData.tuple _ = .tuple ((gF rows).map pD)
      rw [← gF_eq, List.map_map]
      rfl
end
end K71

set_option Elab.async false
set_option linter.all false
set_option maxRecDepth 100000
set_option maxHeartbeats 8000000
namespace K71
open PySem PySem.Spec PyProof.Rows L2 KW SE
local macro_rules | `(tactic| walk_at "ev") => `(tactic| repeat' (first
  | with_reducible exact ev_int | with_reducible exact ev_str | with_reducible exact ev_bool | with_reducible exact ev_none
  | ((with_reducible apply ev_var); exact rfl)
  | with_reducible exact rv_add | with_reducible exact rv_sub | with_reducible exact rv_lt | with_reducible exact rv_le | with_reducible exact rv_gt | with_reducible exact rv_ge
  | with_reducible exact rv_eqI | with_reducible exact rv_neI | with_reducible exact rv_eqB | with_reducible exact rv_neB | with_reducible exact rv_eqT | with_reducible exact rv_neT | with_reducible exact rv_eqLI | with_reducible exact rv_neLI
  | with_reducible exact rv_isB | with_reducible exact rv_notB | with_reducible exact rv_inLI | with_reducible exact rv_inTI | with_reducible exact rv_niLI | with_reducible exact rv_niTI
  | ((with_reducible apply rv_eqS) <;> decide +kernel) | ((with_reducible apply rv_neS) <;> decide +kernel)
  | with_reducible apply rv_mul | with_reducible apply rv_mod | with_reducible apply rv_fdiv | with_reducible apply rv_pow | with_reducible apply rv_ixTI | with_reducible apply rv_ixLI | with_reducible apply rv_ixT | with_reducible apply rv_ixL | with_reducible apply rv_addT
  | with_reducible exact ru_neg
  | with_reducible exact rc_abs | with_reducible exact rc_max | with_reducible exact rc_min | with_reducible exact rc_minT | with_reducible exact rc_intI | with_reducible exact rc_intB | with_reducible exact rc_lenTI | with_reducible exact rc_lenLI | with_reducible exact rc_lenT | with_reducible exact rc_lenL | with_reducible exact rc_tupL | with_reducible exact rc_tupT | with_reducible exact rc_sum | with_reducible exact rc_all
  | with_reducible apply ev_opR
  | with_reducible apply ev_isiR
  | with_reducible exact isi_int | with_reducible exact isi_int_bool | with_reducible exact isi_tup | with_reducible exact isi_str
  | with_reducible apply ev_cbR
  | with_reducible apply KW.ev_un
  | with_reducible apply ev_tupR
  | ((with_reducible show okT _ = true); exact rfl)
  | with_reducible apply ev_revD
  | with_reducible exact RevD.lst _ | with_reducible exact RevD.tup _
  | with_reducible apply ev_slD
  | with_reducible exact SlD.lst _ | with_reducible exact SlD.tup _
  | with_reducible apply ef_lstR
  | with_reducible apply KW.ef_call
  | with_reducible apply KW.ef_addX_L
  | with_reducible apply KW.ef_listRg1 | with_reducible apply KW.ev_tupRg1 | with_reducible apply KW.ev_tupRg2
  | with_reducible apply ep_some
  | with_reducible exact ep_none
  | with_reducible apply KW.eb_test
  | with_reducible apply KW.eb_B
  | with_reducible apply KW.eb_not
  | with_reducible apply KW.ev_not
  | with_reducible exact eas_nil
  | with_reducible apply eas_cons
  | with_reducible apply KW.eb_and
  | with_reducible apply KW.eb_or
  | with_reducible apply KW.ev_and
  | with_reducible apply KW.ev_or
  | with_reducible apply KW.ev_chain
  | with_reducible apply KW.ev_call | with_reducible apply KW.ev_callF
  | walk_at "fr"
  | with_reducible refine fun (_ : _ = true) => ?_
  | with_reducible refine fun (_ : _ = false) => ?_))
local macro_rules | `(tactic| walk_at "sd") => `(tactic| first
  | assumption | omega | exact rfl | exact noL_tI _ | exact noLs_ints _ | exact Nat.le_of_ble_eq_true rfl
  | (refine Or.inl ⟨?_, ?_⟩ <;> omega) | (refine Or.inr ⟨?_, ?_⟩ <;> omega) | (refine And.intro ?_ ?_ <;> omega) | exact ⟨by omega, by omega, by decide⟩
  | exact ⟨_, _, rfl, rfl⟩)
local macro_rules | `(tactic| walk_at "set") => `(tactic| (apply run_seq; apply run_setR; (focus walk_at "ev"); all_goals (try walk_at "sd"); try dsimp only [List.set]))
local macro_rules | `(tactic| walk_at "setF") => `(tactic| (apply run_seq; apply run_setF; (focus walk_at "ev"); all_goals (try walk_at "sd"); try dsimp only [List.set]))
local macro_rules | `(tactic| walk_at "if") => `(tactic| (apply run_seq; apply run_if; (focus walk_at "ev"); all_goals (try walk_at "sd")))
local macro_rules | `(tactic| walk_at "if1") => `(tactic| (apply run_if; (focus walk_at "ev"); all_goals (try walk_at "sd")))
local macro_rules | `(tactic| walk_at "ret") => `(tactic| (apply ret_R; apply EvR.to; (focus walk_at "ev"); all_goals (try walk_at "sd")))
local macro_rules | `(tactic| walk_at "app") => `(tactic| (apply run_app; exact rfl; (focus walk_at "ev"); all_goals (try walk_at "sd"); try dsimp only [List.set]))
local macro_rules | `(tactic| walk_at "fr") => `(tactic| first | exact ⟨_, _, rfl, by omega, rfl⟩ | exact ⟨_, rfl, rfl⟩ | exact ⟨_, _, rfl, rfl⟩ | exact ⟨_, _, _, rfl, rfl⟩)

section
variable {P : Program} {w : World} {K : PySem.W.Frag} {mg : Str → Option Value} {base : Heap}
theorem gath_L {rows : Ser} (h : rows.length ≤ 5000) : frGath [.list (rows.map pD)] (sD (gF rows)) := ⟨rows, .inr rfl, h, rfl⟩
theorem gath_T {rows : Ser} (h : rows.length ≤ 5000) : frGath [sD rows] (sD (gF rows)) := ⟨rows, .inl rfl, h, rfl⟩
/-! single, add, times, less, multiply -/
def frSingle : List D → D → Prop := fun ds d => ∃ p x : Int, ds = [.int p, .int x] ∧ d = sD (gF [(p, x)])
theorem ok_single {f : Addr} {fd : FuncData} (F : Fun K "single" "single" s_single f fd) (m : Bl mg) (d_gathered : DefOk P w K mg base "gathered" ["rows"] 1 (spR K frGath)) : FnOk P w K mg base CX0 2 f fd ["power", "number"] (spR K frSingle) := by
  refine def_R F sc_single frSingle (fun ds d ⟨_, _, h, _⟩ => by rw [h]; rfl) fun cdv A outer s H E hr => ⟨_, (pss_one (ps_ret (pe_callD d_gathered (hr.mono (by decide)) (by rfl) (pa_cons (pe_lst (pa_cons (KW.pe_tup (pa_cons (pv 0) (pa_cons (pv 1) pa_nil))) pa_nil)) pa_nil)))), fun ds d ⟨p, x, h1, h2⟩ B => ?_⟩
  subst h1 h2
  try dsimp only [cxOf, Cx.nox, Cx.wish]
  change Run K B _ [.im (.int p), .im (.int x)] _
  exact ret_R (ev_call (ds := [.list ([(p, x)].map pD)]) (eas_cons (EvF.r (ef_lstR (ds := [pD (p, x)]) (eas_cons (ev_tupR (ds := [.int p, .int x]) (by walk_at "ev") rfl) eas_nil) rfl)) eas_nil) (gath_L (by simp)))
def frAdd : List D → D → Prop := fun ds d => ∃ a b : Ser, ds = [sD a, sD b] ∧ (a.length ≤ 2000 ∧ b.length ≤ 2000) ∧ d = sD (gF (a ++ b))
theorem cat_pD (a b : Ser) : PyData.tuple (a.map pD ++ b.map pD) = sD (a ++ b) := by rw [sD, List.map_append]
theorem ok_add {f : Addr} {fd : FuncData} (F : Fun K "add" "add" s_add f fd) (m : Bl mg) (d_gathered : DefOk P w K mg base "gathered" ["rows"] 1 (spR K frGath)) : FnOk P w K mg base CX0 2 f fd ["one", "two"] (spR K frAdd) := by
  refine def_R F sc_add frAdd (fun ds d ⟨_, _, h, _⟩ => by rw [h]; rfl) fun cdv A outer s H E hr => ⟨_, (pss_one (ps_ret (pe_callD d_gathered (hr.mono (by decide)) (by rfl) (pa_cons (pe_op (op_addK K rfl) (pv 0) (pv 1)) pa_nil)))), fun ds d ⟨a, b, h1, ⟨h3, h4⟩, h2⟩ B => ?_⟩
  subst h1 h2
  try dsimp only [cxOf, Cx.nox, Cx.wish]
  change Run K B _ [.im (sD a), .im (sD b)] _
  exact ret_R (ev_call (ds := [sD (a ++ b)]) (eas_cons (EvR.to (ev_opR (ev_var rfl) (ev_var rfl) (rv_addT (by rw [List.length_map, List.length_map]; omega))) (cat_pD a b)) eas_nil) (gath_T (by rw [List.length_append]; omega)))
def frTimes : List D → D → Prop := fun ds d => ∃ (s : Ser) (c : Int), ds = [sD s, .int c] ∧ (bd s = true ∧ -1000 ≤ c ∧ c ≤ 1000) ∧ d = sD (timesF s c)
theorem ok_times {f : Addr} {fd : FuncData} (F : Fun K "times" "times" s_times f fd) (m : Bl mg) (d_gathered : DefOk P w K mg base "gathered" ["rows"] 1 (spR K frGath)) : FnOk P w K mg base CX0 2 f fd ["series", "number"] (spR K frTimes) := by
  refine def_R F sc_times frTimes (fun ds d ⟨_, _, h, _⟩ => by rw [h]; rfl) fun cdv A outer s H E hr => ⟨_, (pss_one (ps_ret (pe_callD d_gathered (hr.mono (by decide)) (by rfl) (pa_cons (pe_lc (own := [("power", 2), ("x", 3)]) rfl sc_times.nd (seq_K K rfl (pv 0)) (blkOk_by (N := ["series", "number", "power", "x"]) (sc := defScope s_times) (by decide +kernel)) (fun _ _ _ _ _ => (tup_K (n := 2) K rfl rfl (pgs_cons (pg_name (i := 2) sc_times.nd rfl (Or.inl rfl)) (pgs_cons (pg_name (i := 3) sc_times.nd rfl (Or.inl rfl)) pgs_nil)) (by rfl) (by rfl))) (fun _ _ _ _ _ => pts_nil) (fun _ _ _ _ _ => (KW.pe_tup (pa_cons (pv 2) (pa_cons (pe_op op_mul (pv 1) (pv 3)) pa_nil))))) pa_nil)))), fun ds d ⟨s, c, h1, ⟨h3, h4, h5⟩, h2⟩ B => ?_⟩
  subst h1 h2
  try dsimp only [cxOf, Cx.nox, Cx.wish]
  obtain ⟨hb, hl⟩ := bd_at h3
  change Run K B _ [.im (sD s), .im (.int c), .no, .no] _
  refine ret_R (ev_call (ds := [.list ((s.map fun x => (x.1, c * x.2)).map pD)]) (eas_cons (EvF.r (EvF.to (ef_lc s pD (fun x => [(2, .int x.1), (3, .int x.2)]) (fun _ => true) (fun x => pD (x.1, c * x.2)) (it_seqT (ev_var rfl)) (fun _ _ => tg_tup (tgl_cons tg_name (tgl_cons tg_name tgl_nil)) rfl) (fun _ _ p hp => by
      simp only [List.mem_cons, List.not_mem_nil, or_false] at hp
      rcases hp with rfl | rfl <;> simp) (fun a ha => fun σ H E Q q => q H (Evl.Ex.refl H)) (fun a ha _ => em_R rfl ?_) (by omega)) (by rw [filt, List.map_map]; rfl))) eas_nil) (gath_L (by rw [List.length_map]; omega)))
  have := hb a ha
  exact ev_tupR (eas_cons (ev_var rfl) (eas_cons (ev_opR (ev_var rfl) (ev_var rfl) (rv_mul (.inl ⟨by omega, by omega⟩))) eas_nil)) rfl
def frLess : List D → D → Prop := fun ds d => ∃ a b : Ser, ds = [sD a, sD b] ∧ (a.length ≤ 2000 ∧ bd b = true) ∧ d = sD (lessF a b)
theorem ok_less {f : Addr} {fd : FuncData} (F : Fun K "less" "less" s_less f fd) (m : Bl mg) (d_gathered : DefOk P w K mg base "gathered" ["rows"] 1 (spR K frGath)) (d_times : DefOk P w K mg base "times" ["series", "number"] 2 (spR K frTimes)) : FnOk P w K mg base CX0 3 f fd ["one", "two"] (spR K frLess) := by
  refine def_R F sc_less frLess (fun ds d ⟨_, _, h, _⟩ => by rw [h]; rfl) fun cdv A outer s H E hr => ⟨_, (pss_one (ps_ret (pe_callD d_gathered (hr.mono (by decide)) (by rfl) (pa_cons (pe_op (op_addK K rfl) (pv 0) (pe_callD d_times (hr.mono (by decide)) (by rfl) (pa_cons (pv 1) (pa_cons (pe_un un_neg pe_int) pa_nil)))) pa_nil)))), fun ds d ⟨a, b, h1, ⟨h3, h4⟩, h2⟩ B => ?_⟩
  subst h1 h2
  try dsimp only [cxOf, Cx.nox, Cx.wish]
  obtain ⟨hb, hl⟩ := bd_at h4
  have ht : (timesF b (-1)).length ≤ 200 := by
    refine Nat.le_trans (gF_length _) ?_
    rw [List.length_map]
    exact hl
  change Run K B _ [.im (sD a), .im (sD b)] _
  exact ret_R (ev_call (ds := [sD (a ++ timesF b (-1))]) (eas_cons (EvR.to (ev_opR (ev_var rfl) (ev_call (ds := [sD b, .int (-1)]) (by walk_at "ev") ⟨b, -1, rfl, ⟨h4, by decide, by decide⟩, rfl⟩) (rv_addT (by rw [List.length_map, List.length_map]; omega))) (cat_pD _ _)) eas_nil) (gath_T (by rw [List.length_append]; omega)))
def frMul : List D → D → Prop := fun ds d => ∃ a b : Ser, ds = [sD a, sD b] ∧ (bd a = true ∧ bd b = true ∧ a.length * b.length ≤ 5000) ∧ d = sD (mulF a b)
theorem flat_len' {α β : Type} {f : α → List β} {c : Nat} : ∀ l : List α, (∀ a ∈ l, (f a).length ≤ c) → (l.flatMap f).length ≤ c * l.length
  | [], _ => by simp
  | a :: l, h => by
    rw [List.flatMap_cons, List.length_append, List.length_cons, Nat.mul_add]
    have h1 := flat_len' l (fun b hb => h b (by simp [hb]))
    have h2 := h a (by simp)
    omega
theorem ok_multiply {f : Addr} {fd : FuncData} (F : Fun K "multiply" "multiply" s_multiply f fd) (m : Bl mg) (d_gathered : DefOk P w K mg base "gathered" ["rows"] 1 (spR K frGath)) : FnOk P w K mg base CX0 2 f fd ["one", "two"] (spR K frMul) := by
  refine def_R F sc_multiply frMul (fun ds d ⟨_, _, h, _⟩ => by rw [h]; rfl) fun cdv A outer s H E hr => ⟨_, (pss_one (ps_ret (pe_callD d_gathered (hr.mono (by decide)) (by rfl) (pa_cons (pe_lc2 (own := [("j", 2), ("x", 3), ("k", 4), ("y", 5)]) (vs1 := [4, 5]) rfl sc_multiply.nd (seq_K K rfl (pv 0)) (blkOk_by (N := ["one", "two", "j", "x", "k", "y"]) (sc := defScope s_multiply) (by decide +kernel)) (by decide) (fun _ _ _ _ _ => (tup_K (n := 2) K rfl rfl (pgs_cons (pg_name (i := 2) sc_multiply.nd rfl (Or.inl rfl)) (pgs_cons (pg_name (i := 3) sc_multiply.nd rfl (Or.inl rfl)) pgs_nil)) (by rfl) (by rfl))) (fun _ _ _ _ _ => pts_nil) (fun _ _ _ _ _ => (seq_K K rfl (pv 1))) (fun _ _ _ _ _ => (tup_K (n := 2) K rfl rfl (pgs_cons (pg_name (i := 4) sc_multiply.nd rfl (Or.inl rfl)) (pgs_cons (pg_name (i := 5) sc_multiply.nd rfl (Or.inl rfl)) pgs_nil)) (by rfl) (by rfl))) (fun _ _ _ _ _ => pts_nil) (fun _ _ _ _ _ => (KW.pe_tup (pa_cons (pe_op (op_addK K rfl) (pv 2) (pv 4)) (pa_cons (pe_op op_mul (pv 3) (pv 5)) pa_nil))))) pa_nil)))), fun ds d ⟨a, b, h1, ⟨h3, h4, h5⟩, h2⟩ B => ?_⟩
  subst h1 h2
  try dsimp only [cxOf, Cx.nox, Cx.wish]
  obtain ⟨ha, hla⟩ := bd_at h3
  obtain ⟨hb, hlb⟩ := bd_at h4
  have hlen : ∀ i, ((a.take i).flatMap fun x => (b.filter fun _ => true).map fun y => pD (x.1 + y.1, x.2 * y.2)).length ≤ 50000 := fun i => by
    have h1 := flat_len' (c := b.length) (f := fun x : Int × Int => (b.filter fun _ => true).map fun y => pD (x.1 + y.1, x.2 * y.2)) (a.take i) fun x _ => by rw [filt, List.length_map]; exact Nat.le_refl _
    have h2 : (a.take i).length ≤ a.length := by rw [List.length_take]; omega
    have h6 : b.length * (a.take i).length ≤ b.length * a.length := Nat.mul_le_mul_left _ h2
    rw [Nat.mul_comm b.length a.length] at h6
    omega
  have hml : (mulR a b).length ≤ 5000 := by
    have h1 := flat_len' (c := b.length) (f := fun x : Int × Int => b.map fun y => (x.1 + y.1, x.2 * y.2)) a fun x _ => by rw [List.length_map]; exact Nat.le_refl _
    rw [Nat.mul_comm b.length a.length] at h1
    exact Nat.le_trans h1 h5
  change Run K B _ [.im (sD a), .im (sD b), .no, .no, .no, .no] _
  refine ret_R (ev_call (ds := [.list ((mulR a b).map pD)]) (eas_cons (EvF.r (EvF.to (ef_lc2 a pD (fun x => [(2, .int x.1), (3, .int x.2)]) (fun _ => b) (fun _ => pD) (fun _ y => [(4, .int y.1), (5, .int y.2)]) (fun _ _ => true) (fun x y => pD (x.1 + y.1, x.2 * y.2)) (it_seqT (ev_var rfl)) (fun _ _ => tg_tup (tgl_cons tg_name (tgl_cons tg_name tgl_nil)) rfl) (fun _ _ p hp => by
      simp only [List.mem_cons, List.not_mem_nil, or_false] at hp
      rcases hp with rfl | rfl <;> simp) (fun x hx => itm_seqT (ev_var rfl) (noLs_pD b)) (fun _ _ _ _ => tg_tup (tgl_cons tg_name (tgl_cons tg_name tgl_nil)) rfl) (fun _ _ _ _ p hp => by
      simp only [List.mem_cons, List.not_mem_nil, or_false] at hp
      rcases hp with rfl | rfl <;> simp) (fun _ _ _ _ => fun σ H E Q q => q H (Evl.Ex.refl H)) (fun x hx y hy _ => em_R rfl ?_) hlen (fun x hx => by omega)) ?_)) eas_nil) (gath_L hml))
  · have := ha x hx
    have := hb y hy
    exact ev_tupR (eas_cons (ev_opR (ev_var rfl) (ev_var rfl) rv_add) (eas_cons (ev_opR (ev_var rfl) (ev_var rfl) (rv_mul (.inl ⟨by omega, by omega⟩))) eas_nil)) rfl
  · rw [mulR, List.map_flatMap]
    simp only [filt, List.map_map]
    rfl
/-! even_sum, surface_of_torus, is_whole -/
def frEven : List D → D → Prop := fun ds d => ∃ n : Int, ds = [.int n] ∧ (0 ≤ n ∧ n ≤ 1000) ∧ d = sD (evenS n)
theorem ok_even_sum {f : Addr} {fd : FuncData} (F : Fun K "even_sum" "even_sum" s_even_sum f fd) (m : Bl mg) : FnOk P w K mg base CX0 1 f fd ["n"] (spR K frEven) := by
  refine def_R F sc_even_sum frEven (fun ds d ⟨_, h, _⟩ => by rw [h]; rfl) fun cdv A outer s H E hr => ⟨_, (pss_one (ps_ret (pe_callTy (tupOf_K K rfl) (by rfl) m.tuple (by decide +kernel) (pa_cons (pe_lc (own := [("k", 1)]) rfl sc_even_sum.nd (pi_range1 (by rfl) m.range (pa_cons (pv 0) pa_nil)) (blkOk_by (N := ["n", "k"]) (sc := defScope s_even_sum) (by decide +kernel)) (fun _ _ _ _ _ => (pg_name (i := 1) sc_even_sum.nd rfl (Or.inl rfl))) (fun _ _ _ _ _ => pts_nil) (fun _ _ _ _ _ => (KW.pe_tup (pa_cons (pv 1) (pa_cons pe_int pa_nil))))) pa_nil)))), fun ds d ⟨n, h1, hn, h2⟩ B => ?_⟩
  subst h1 h2
  try dsimp only [cxOf, Cx.nox, Cx.wish]
  change Run K B _ [.im (.int n), .no] _
  refine ret_R (EvR.to (ev_cbR (ds := [.list (((rgI 0 n.toNat).filter fun _ => true).map fun k => pD (k, 1))]) (eas_cons (EvF.r (ef_lc (rgI 0 n.toNat) .int (fun k => [(1, .int k)]) (fun _ => true) (fun k => pD (k, 1)) (it_rng1 (n := n) (by walk_at "ev") (by omega)) (fun _ _ => tg_name) (fun _ _ p hp => by
      rw [List.mem_singleton.mp hp]; simp) (fun a ha => fun σ H E Q q => q H (Evl.Ex.refl H)) (fun a ha _ => em_R rfl (ev_tupR (by walk_at "ev") rfl)) (by rw [rgI_length]; omega))) eas_nil) rc_tupL) ?_)
  rw [filt]
  show PyData.tuple _ = .tuple ((evenS n).map pD)
  rw [evenS, List.map_map]
  rfl
def frSurf : List D → D → Prop := fun ds d => ∃ p q : Int, ds = [.int p, .int q] ∧ (0 ≤ p ∧ p ≤ 1000 ∧ 0 ≤ q ∧ q ≤ 1000) ∧ d = .int ((p - 1) * (q - 1))
theorem ok_surface_of_torus {f : Addr} {fd : FuncData} (F : Fun K "surface_of_torus" "surface_of_torus" s_surface_of_torus f fd) (m : Bl mg) : FnOk P w K mg base CX0 1 f fd ["p", "q"] (spR K frSurf) := by
  refine def_R F sc_surface_of_torus frSurf (fun ds d ⟨_, _, h, _⟩ => by rw [h]; rfl) fun cdv A outer s H E hr => ⟨_, (pss_one (ps_ret (pe_op op_mul (pe_op op_sub (pv 0) pe_int) (pe_op op_sub (pv 1) pe_int)))), fun ds d ⟨p, q, h1, hn, h2⟩ B => ?_⟩
  subst h1 h2
  try dsimp only [cxOf, Cx.nox, Cx.wish]
  change Run K B _ [.im (.int p), .im (.int q)] _
  exact ret_R (ev_opR (ev_opR (ev_var rfl) ev_int rv_sub) (ev_opR (ev_var rfl) ev_int rv_sub) (rv_mul (.inl ⟨by omega, by omega⟩)))
def frWhole : List D → D → Prop := fun ds d => ∃ i, ds = [.int i] ∧ d = .bool true
theorem ok_is_whole {f : Addr} {fd : FuncData} (F : Fun K "is_whole" "is_whole" s_is_whole f fd) (m : Bl mg) : FnOk P w K mg base CX0 1 f fd ["value"] (spR K frWhole) := by
  refine def_R F sc_is_whole frWhole (fun ds d ⟨i, h, _⟩ => by rw [h]; rfl) fun cdv A outer s H E hr => ⟨_, (pss_one (ps_ret (pe_and (pe_callB (isi_K K rfl) (by rfl) m.isinstance (by decide +kernel) (pa_cons (pv 0) (pa_cons (pe_bltn (v := .ty "int") (by rfl) m.int (by decide +kernel) rfl) pa_nil))) (pe_one (pe_not (pe_callB (isi_K K rfl) (by rfl) m.isinstance (by decide +kernel) (pa_cons (pv 0) (pa_cons (pe_bltn (v := .ty "bool") (by rfl) m.bool (by decide +kernel) rfl) pa_nil)))))))), fun ds d ⟨i, h1, h2⟩ B => ?_⟩
  subst h1 h2
  try dsimp only [cxOf, Cx.nox, Cx.wish]
  change Run K B _ [.im (.int i)] _
  walk_at "ret"
end
end K71

set_option Elab.async false
set_option linter.all false
set_option maxRecDepth 100000
set_option maxHeartbeats 8000000
namespace K71
open PySem PySem.Spec PyProof.Rows L2 KW SE
local macro_rules | `(tactic| walk_at "ev") => `(tactic| repeat' (first
  | with_reducible exact ev_int | with_reducible exact ev_str | with_reducible exact ev_bool | with_reducible exact ev_none
  | ((with_reducible apply ev_var); exact rfl)
  | with_reducible exact rv_add | with_reducible exact rv_sub | with_reducible exact rv_lt | with_reducible exact rv_le | with_reducible exact rv_gt | with_reducible exact rv_ge
  | with_reducible exact rv_eqI | with_reducible exact rv_neI | with_reducible exact rv_eqB | with_reducible exact rv_neB | with_reducible exact rv_eqT | with_reducible exact rv_neT | with_reducible exact rv_eqLI | with_reducible exact rv_neLI
  | with_reducible exact rv_isB | with_reducible exact rv_notB | with_reducible exact rv_inLI | with_reducible exact rv_inTI | with_reducible exact rv_niLI | with_reducible exact rv_niTI
  | ((with_reducible apply rv_eqS) <;> decide +kernel) | ((with_reducible apply rv_neS) <;> decide +kernel)
  | with_reducible apply rv_mul | with_reducible apply rv_mod | with_reducible apply rv_fdiv | with_reducible apply rv_pow | with_reducible apply rv_ixTI | with_reducible apply rv_ixLI | with_reducible apply rv_ixT | with_reducible apply rv_ixL | with_reducible apply rv_addT
  | with_reducible exact ru_neg
  | with_reducible exact rc_abs | with_reducible exact rc_max | with_reducible exact rc_min | with_reducible exact rc_minT | with_reducible exact rc_intI | with_reducible exact rc_intB | with_reducible exact rc_lenTI | with_reducible exact rc_lenLI | with_reducible exact rc_lenT | with_reducible exact rc_lenL | with_reducible exact rc_tupL | with_reducible exact rc_tupT | with_reducible exact rc_sum | with_reducible exact rc_all
  | with_reducible apply ev_opR
  | with_reducible apply ev_isiR
  | with_reducible exact isi_int | with_reducible exact isi_int_bool | with_reducible exact isi_tup | with_reducible exact isi_str
  | with_reducible apply ev_cbR
  | with_reducible apply KW.ev_un
  | with_reducible apply ev_tupR
  | ((with_reducible show okT _ = true); exact rfl)
  | with_reducible apply ev_revD
  | with_reducible exact RevD.lst _ | with_reducible exact RevD.tup _
  | with_reducible apply ev_slD
  | with_reducible exact SlD.lst _ | with_reducible exact SlD.tup _
  | with_reducible apply ef_lstR
  | with_reducible apply KW.ef_call
  | with_reducible apply KW.ef_addX_L
  | with_reducible apply KW.ef_listRg1 | with_reducible apply KW.ev_tupRg1 | with_reducible apply KW.ev_tupRg2
  | with_reducible apply ep_some
  | with_reducible exact ep_none
  | with_reducible apply KW.eb_test
  | with_reducible apply KW.eb_B
  | with_reducible apply KW.eb_not
  | with_reducible apply KW.ev_not
  | with_reducible exact eas_nil
  | with_reducible apply eas_cons
  | with_reducible apply KW.eb_and
  | with_reducible apply KW.eb_or
  | with_reducible apply KW.ev_and
  | with_reducible apply KW.ev_or
  | with_reducible apply KW.ev_chain
  | with_reducible apply KW.ev_call | with_reducible apply KW.ev_callF
  | walk_at "fr"
  | with_reducible refine fun (_ : _ = true) => ?_
  | with_reducible refine fun (_ : _ = false) => ?_))
local macro_rules | `(tactic| walk_at "sd") => `(tactic| first
  | assumption | omega | exact rfl | exact noL_tI _ | exact noLs_ints _ | exact Nat.le_of_ble_eq_true rfl
  | (refine Or.inl ⟨?_, ?_⟩ <;> omega) | (refine Or.inr ⟨?_, ?_⟩ <;> omega) | (refine And.intro ?_ ?_ <;> omega) | exact ⟨by omega, by omega, by decide⟩
  | exact ⟨_, _, rfl, rfl⟩)
local macro_rules | `(tactic| walk_at "set") => `(tactic| (apply run_seq; apply run_setR; (focus walk_at "ev"); all_goals (try walk_at "sd"); try dsimp only [List.set]))
local macro_rules | `(tactic| walk_at "setF") => `(tactic| (apply run_seq; apply run_setF; (focus walk_at "ev"); all_goals (try walk_at "sd"); try dsimp only [List.set]))
local macro_rules | `(tactic| walk_at "if") => `(tactic| (apply run_seq; apply run_if; (focus walk_at "ev"); all_goals (try walk_at "sd")))
local macro_rules | `(tactic| walk_at "if1") => `(tactic| (apply run_if; (focus walk_at "ev"); all_goals (try walk_at "sd")))
local macro_rules | `(tactic| walk_at "ret") => `(tactic| (apply ret_R; apply EvR.to; (focus walk_at "ev"); all_goals (try walk_at "sd")))
local macro_rules | `(tactic| walk_at "app") => `(tactic| (apply run_app; exact rfl; (focus walk_at "ev"); all_goals (try walk_at "sd"); try dsimp only [List.set]))
local macro_rules | `(tactic| walk_at "fr") => `(tactic| first | exact ⟨_, _, rfl, by omega, rfl⟩ | exact ⟨_, rfl, rfl⟩ | exact ⟨_, _, rfl, rfl⟩ | exact ⟨_, _, _, rfl, rfl⟩)

section
variable {P : Program} {w : World} {K : PySem.W.Frag} {mg : Str → Option Value} {base : Heap}
/-! value_at, width -/
def frVal : List D → D → Prop := fun ds d => ∃ (s : Ser) (n : Int), ds = [sD s, .int n] ∧ bd s = true ∧ d = .int (valF s n)
theorem ok_value_at {f : Addr} {fd : FuncData} (F : Fun K "value_at" "value_at" s_value_at f fd) (m : Bl mg) : FnOk P w K mg base CX0 1 f fd ["series", "number"] (spR K frVal) := by
  refine def_R F sc_value_at frVal (fun ds d ⟨_, _, h, _⟩ => by rw [h]; rfl) fun cdv A outer s H E hr => ⟨_, (pss_one (ps_ret (pe_callB (sum_K K rfl rfl) (by rfl) m.sum (by decide +kernel) (pa_cons (pe_lc (own := [("power", 2), ("x", 3)]) rfl sc_value_at.nd (seq_K K rfl (pv 0)) (blkOk_by (N := ["series", "number", "power", "x"]) (sc := defScope s_value_at) (by decide +kernel)) (fun _ _ _ _ _ => (tup_K (n := 2) K rfl rfl (pgs_cons (pg_name (i := 2) sc_value_at.nd rfl (Or.inl rfl)) (pgs_cons (pg_name (i := 3) sc_value_at.nd rfl (Or.inl rfl)) pgs_nil)) (by rfl) (by rfl))) (fun _ _ _ _ _ => pts_nil) (fun _ _ _ _ _ => (pe_ifExp (PW.pt (pw_or (pt_cmpR (op_eqK K rfl hr.units) (pv 1) pe_int (nomark _)) (pw_or1 (pt_cmpR (op_eqK K rfl hr.units) (pe_op op_mod (pv 2) pe_int) pe_int (nomark _))))) (pv 3) (pe_un un_neg (pv 3))))) pa_nil)))), fun ds d ⟨s, n, h1, hb, h2⟩ B => ?_⟩
  subst h1 h2
  try dsimp only [cxOf, Cx.nox, Cx.wish]
  obtain ⟨_, hl⟩ := bd_at hb
  change Run K B _ [.im (sD s), .im (.int n), .no, .no] _
  refine ret_R (ev_cbR (ds := [lI (s.map fun x => if n = 1 ∨ x.1 % 2 = 0 then x.2 else -x.2)]) (eas_cons (EvF.r (EvF.to (ef_lc s pD (fun x => [(2, .int x.1), (3, .int x.2)]) (fun _ => true) (fun x => .int (if n = 1 ∨ x.1 % 2 = 0 then x.2 else -x.2)) (it_seqT (ev_var rfl)) (fun _ _ => tg_tup (tgl_cons tg_name (tgl_cons tg_name tgl_nil)) rfl) (fun _ _ p hp => by
      simp only [List.mem_cons, List.not_mem_nil, or_false] at hp
      rcases hp with rfl | rfl <;> simp) (fun a ha => fun σ H E Q q => q H (Evl.Ex.refl H)) (fun x hx _ => em_R rfl ?_) (by omega)) (by rw [filt, List.map_map]; rfl))) eas_nil) rc_sum)
  refine ev_if (b := decide (n = 1) || decide (x.1 % 2 = 0)) (KW.eb_or (KW.eb_test (ev_opR (ev_var rfl) ev_int rv_eqI)) fun _ => KW.eb_test (ev_opR (ev_opR (ev_var rfl) ev_int (rv_mod (by decide))) ev_int rv_eqI)) (fun h => ?_) (fun h => ?_)
  · have h : n = 1 ∨ x.1 % 2 = 0 := by simpa using h
    rw [if_pos h]
    exact ev_var rfl
  · have h : ¬ (n = 1 ∨ x.1 % 2 = 0) := by simpa using h
    rw [if_neg h]
    exact KW.ev_un (ev_var rfl) ru_neg
def frWidth : List D → D → Prop := fun ds d => ∃ s : Ser, ds = [sD s] ∧ d = .int (widthF s)
theorem last_pD (x : Int × Int) (t : Ser) : atI ((x :: t).map pD) (-1) = some (pD ((x :: t).getLastD (0, 0))) := atI_map (atI_back (0, 0) (by simp))
theorem ok_width {f : Addr} {fd : FuncData} (F : Fun K "width" "width" s_width f fd) (m : Bl mg) : FnOk P w K mg base CX0 1 f fd ["series"] (spR K frWidth) := by
  refine def_R F sc_width frWidth (fun ds d ⟨_, h, _⟩ => by rw [h]; rfl) fun cdv A outer s H E hr => ⟨_, (pss_one (ps_ret (pe_ifExp (pt_cmpR op_gt (pe_callB (len_K K rfl) (by rfl) m.len PySem.boot_len (pa_cons (pv 0) pa_nil)) pe_int (nomark _)) (pe_op op_sub (pe_ix (ix_K K rfl) (pe_ix (ix_K K rfl) (pv 0) (pe_un un_neg pe_int) (fun _ _ => rfl)) pe_int (fun _ _ => rfl)) (pe_ix (ix_K K rfl) (pe_ix (ix_K K rfl) (pv 0) pe_int (fun _ _ => rfl)) pe_int (fun _ _ => rfl))) pe_int))), fun ds d ⟨s, h1, h2⟩ B => ?_⟩
  subst h1 h2
  try dsimp only [cxOf, Cx.nox, Cx.wish]
  change Run K B _ [.im (sD s)] _
  match s with
  | [] => exact ret_R (ev_if (b := false) (EvB.to (b := decide ((0 : Int) < ((([] : Ser).map pD).length : Int))) (by walk_at "ev") rfl) (fun z => by cases z) fun _ => ev_int)
  | x :: t =>
    refine ret_R (ev_if (b := true) (EvB.to (b := decide ((0 : Int) < (((x :: t).map pD).length : Int))) (by walk_at "ev") (by simp)) (fun _ => ?_) fun z => by cases z)
    exact ev_opR (ev_opR (ev_opR (ev_var rfl) (KW.ev_un ev_int ru_neg) (rv_ixT (last_pD x t))) ev_int (rv_ixT (atI_nat (j := 0) rfl))) (ev_opR (ev_opR (ev_var rfl) ev_int (rv_ixT (atI_nat (j := 0) rfl))) ev_int (rv_ixT (atI_nat (j := 0) rfl))) rv_sub
/-! divided, torus_alexander -/
def frDiv : List D → D → Prop := fun ds d => ∃ a b r : Ser, ds = [sD a, sD b] ∧ (bd b = true ∧ b ≠ [] ∧ divF 200 a [] b = some r) ∧ d = sD r
theorem ok_divided {f : Addr} {fd : FuncData} (F : Fun K "divided" "divided" s_divided f fd) (m : Bl mg) (d_width : DefOk P w K mg base "width" ["series"] 1 (spR K frWidth)) (d_single : DefOk P w K mg base "single" ["power", "number"] 2 (spR K frSingle)) (d_add : DefOk P w K mg base "add" ["one", "two"] 2 (spR K frAdd))
    (d_less : DefOk P w K mg base "less" ["one", "two"] 3 (spR K frLess)) (d_multiply : DefOk P w K mg base "multiply" ["one", "two"] 2 (spR K frMul)) : FnOk P w K mg base CX0 4 f fd ["one", "two"] (spR K frDiv) := by
  refine def_R F sc_divided frDiv (fun ds d ⟨_, _, _, h, _⟩ => by rw [h]; rfl) fun cdv A outer s H E hr => ⟨_, (pss_cons (ps_par (i := 2) (j := 3) rfl sc_divided.nd rfl rfl (by decide) rfl rfl (pa_cons (pv 0) (pa_cons (KW.pe_tup pa_nil) pa_nil)) (by rfl))
        (pss_cons (ps_while PassesOwn.never (pt_cmpR op_gt (pe_callB (len_K K rfl) (by rfl) m.len PySem.boot_len (pa_cons (pv 2) pa_nil)) pe_int (nomark _)) (pss_cons (ps_if (PW.pt (pw_or (pt_cmpR (op_neK K rfl hr.units) (pe_op op_mod (pe_ix (ix_K K rfl) (pe_ix (ix_K K rfl) (pv 2) (pe_un un_neg pe_int) (fun _ _ => rfl)) pe_int (fun _ _ => rfl)) (pe_ix (ix_K K rfl) (pe_ix (ix_K K rfl) (pv 1) (pe_un un_neg pe_int) (fun _ _ => rfl)) pe_int (fun _ _ => rfl))) pe_int (nomark _)) (pw_or1 (pt_cmpR op_lt (pe_callD d_width (hr.mono (by decide)) (by rfl) (pa_cons (pv 2) pa_nil)) (pe_callD d_width (hr.mono (by decide)) (by rfl) (pa_cons (pv 1) pa_nil)) (nomark _))))) (pss_one (ps_ret pe_non)) pss_nil)
        (pss_cons (ps_set (i := 4) sc_divided.nd rfl (.inl rfl) (pe_callD d_single (hr.mono (by decide)) (by rfl) (pa_cons (pe_op op_sub (pe_ix (ix_K K rfl) (pe_ix (ix_K K rfl) (pv 2) (pe_un un_neg pe_int) (fun _ _ => rfl)) pe_int (fun _ _ => rfl)) (pe_ix (ix_K K rfl) (pe_ix (ix_K K rfl) (pv 1) (pe_un un_neg pe_int) (fun _ _ => rfl)) pe_int (fun _ _ => rfl))) (pa_cons (pe_op op_fdiv (pe_ix (ix_K K rfl) (pe_ix (ix_K K rfl) (pv 2) (pe_un un_neg pe_int) (fun _ _ => rfl)) pe_int (fun _ _ => rfl)) (pe_ix (ix_K K rfl) (pe_ix (ix_K K rfl) (pv 1) (pe_un un_neg pe_int) (fun _ _ => rfl)) pe_int (fun _ _ => rfl))) pa_nil))))
        (pss_cons (ps_set (i := 3) sc_divided.nd rfl (.inl rfl) (pe_callD d_add (hr.mono (by decide)) (by rfl) (pa_cons (pv 3) (pa_cons (pv 4) pa_nil))))
        (pss_one (ps_set (i := 2) sc_divided.nd rfl (.inl rfl) (pe_callD d_less (hr.mono (by decide)) (by rfl) (pa_cons (pv 2) (pa_cons (pe_callD d_multiply (hr.mono (by decide)) (by rfl) (pa_cons (pv 4) (pa_cons (pv 1) pa_nil))) pa_nil)))))))))
        (pss_one (ps_ret (pv 3))))), fun ds d ⟨a, b, r, h1, ⟨hb, hne, he⟩, h2⟩ B => ?_⟩
  subst h1 h2
  try dsimp only [cxOf, Cx.nox, Cx.wish]
  change Run K B _ [.im (sD a), .im (sD b), .no, .no, .no] _
  refine run_seq (run_parRR (d1 := sD a) (d2 := sD []) (ev_var rfl) (ev_tupR eas_nil rfl) (noL_sD _) (noL_sD _) (Nat.le_of_ble_eq_true rfl) (Nat.le_of_ble_eq_true rfl) ?_)
  dsimp only [List.set]
  obtain ⟨b0, bt, rfl⟩ : ∃ b0 bt, b = b0 :: bt := by
    cases b with
    | nil => exact absurd rfl hne
    | cons x xs => exact ⟨x, xs, rfl⟩
  obtain ⟨hbb, hbl⟩ := bd_at hb
  refine run_seq (run_while (fun m S' => ∃ (l fo : Ser) (e4 : Sl), S' = [.im (sD a), .im (sD (b0 :: bt)), .im (sD l), .im (sD fo), e4] ∧ divF m l fo (b0 :: bt) = some r) 200 ⟨a, [], _, rfl, he⟩ ?_)
  rintro g S' ⟨l, fo, e4, rfl, hd⟩
  refine ⟨decide ((0 : Int) < ((l.map pD).length : Int)), by walk_at "ev", fun h => ?_, fun h => ?_⟩
  · have h := of_decide_eq_true h
    obtain ⟨g, rfl⟩ : ∃ g', g = g' + 1 := by
      cases g with
      | zero => cases hd
      | succ g => exact ⟨g, rfl⟩
    obtain ⟨l0, lt, rfl⟩ : ∃ l0 lt, l = l0 :: lt := by
      cases l with
      | nil => simp at h
      | cons x xs => exact ⟨x, xs, rfl⟩
    unfold divF at hd
    dsimp only at hd
    split at hd
    · rename_i hc
      simp only [Bool.and_eq_true, decide_eq_true_eq] at hc
      obtain ⟨⟨⟨⟨⟨⟨c1, c2⟩, c3⟩, c4⟩, c5⟩, c6⟩, c7⟩ := hc
      obtain ⟨g1, g2⟩ := bd_at c1
      obtain ⟨g3, g4⟩ := bd_at c2
      have hlc := last_pD l0 lt
      have htc := last_pD b0 bt
      have hlm := g1 _ (show (l0 :: lt).getLastD (0, 0) ∈ l0 :: lt from by rw [List.getLastD_cons]; exact List.getLastD_mem_cons)
      have htm := hbb _ (show (b0 :: bt).getLastD (0, 0) ∈ b0 :: bt from by rw [List.getLastD_cons]; exact List.getLastD_mem_cons)
      generalize (l0 :: lt).getLastD (0, 0) = lc at hd c4 hlc hlm c6 c7
      generalize (b0 :: bt).getLastD (0, 0) = tc at hd c3 c4 htc htm c6 c7
      have lastL : ∀ {e4' : Sl} {l3 : Sl}, EvR K (tOp (rIxX K) (tVar 2) (tUn (rU fun i => V.int (-i)) (tC (V.int 1)))) (gm [.im (sD a), .im (sD (b0 :: bt)), .im (sD (l0 :: lt)), l3, e4']) (pD lc) := ev_opR (ev_var rfl) (KW.ev_un ev_int ru_neg) (rv_ixT hlc)
      have lastT : ∀ {e4' : Sl} {l3 : Sl}, EvR K (tOp (rIxX K) (tVar 1) (tUn (rU fun i => V.int (-i)) (tC (V.int 1)))) (gm [.im (sD a), .im (sD (b0 :: bt)), .im (sD (l0 :: lt)), l3, e4']) (pD tc) := ev_opR (ev_var rfl) (KW.ev_un ev_int ru_neg) (rv_ixT htc)
      have i0 : ∀ x : Int × Int, atI [PyData.int x.1, .int x.2] 0 = some (.int x.1) := fun x => atI_nat (j := 0) rfl
      have i1 : ∀ x : Int × Int, atI [PyData.int x.1, .int x.2] 1 = some (.int x.2) := fun x => atI_nat (j := 1) rfl
      refine run_seq (run_if (b := false) (KW.eb_or (b := false) (c := false) (EvB.to (b := !decide (lc.2 % tc.2 = 0)) (KW.eb_test (ev_opR (ev_opR (ev_opR lastL ev_int (rv_ixT (i1 lc))) (ev_opR lastT ev_int (rv_ixT (i1 tc))) (rv_mod c3)) ev_int rv_neI)) (by rw [decide_eq_true c4]; rfl)) fun _ =>
        EvB.to (b := decide (widthF (l0 :: lt) < widthF (b0 :: bt))) (KW.eb_test (ev_opR (ev_call (by walk_at "ev") ⟨_, rfl, rfl⟩) (ev_call (by walk_at "ev") ⟨_, rfl, rfl⟩) rv_lt)) (decide_eq_false (by omega))) (fun z => by cases z) fun _ => run_nx ?_)
      refine run_seq (run_setR (d := sD (gF [(lc.1 - tc.1, lc.2 / tc.2)])) (ev_call (ds := [.int (lc.1 - tc.1), .int (lc.2 / tc.2)]) (eas_cons (ev_opR (ev_opR lastL ev_int (rv_ixT (i0 lc))) (ev_opR lastT ev_int (rv_ixT (i0 tc))) rv_sub) (eas_cons (ev_opR (ev_opR lastL ev_int (rv_ixT (i1 lc))) (ev_opR lastT ev_int (rv_ixT (i1 tc))) (rv_fdiv ⟨c3, by omega⟩)) eas_nil)) ⟨_, _, rfl, rfl⟩) (noL_sD _) (Nat.le_of_ble_eq_true rfl) ?_)
      dsimp only [List.set]
      have hpl : (gF [(lc.1 - tc.1, lc.2 / tc.2)]).length ≤ 1 := gF_length _
      generalize gF [(lc.1 - tc.1, lc.2 / tc.2)] = part at hd c6 c7 hpl
      obtain ⟨g5, g6⟩ := bd_at c6
      refine run_seq (run_setR (d := sD (gF (fo ++ part))) (ev_call (by walk_at "ev") ⟨fo, part, rfl, ⟨by omega, by omega⟩, rfl⟩) (noL_sD _) (Nat.le_of_ble_eq_true rfl) ?_)
      dsimp only [List.set]
      refine run_setR (d := sD (lessF (l0 :: lt) (mulF part (b0 :: bt)))) (ev_call (ds := [sD (l0 :: lt), sD (mulF part (b0 :: bt))]) (eas_cons (ev_var rfl) (eas_cons (ev_call (by walk_at "ev") ⟨part, b0 :: bt, rfl, ⟨c6, hb, ?_⟩, rfl⟩) eas_nil)) ⟨_, _, rfl, ⟨by omega, c7⟩, rfl⟩) (noL_sD _) (Nat.le_of_ble_eq_true rfl) ?_
      · exact Nat.le_trans (Nat.mul_le_mul hpl hbl) (by decide)
      · exact ⟨g, by omega, _, _, _, rfl, hd⟩
    · cases hd
  · have h := of_decide_eq_false h
    have : l = [] := by
      cases l with
      | nil => rfl
      | cons x xs => exact absurd (show (0 : Int) < (((x :: xs).map pD).length : Int) by simp) h
    subst this
    have : fo = r := by
      cases g with
      | zero => cases hd
      | succ g => exact Option.some.inj hd
    subst this
    exact ret_R (ev_var rfl)
def frTor : List D → D → Prop := fun ds d => ∃ (p q : Int) (r : Ser), ds = [.int p, .int q] ∧ (1 ≤ p ∧ p ≤ 10 ∧ 1 ≤ q ∧ q ≤ 10 ∧ torF p q = some r) ∧ d = sD r
theorem even_bd {n : Int} (h : 1 ≤ n ∧ n ≤ 100) : bd (evenS n) = true ∧ evenS n ≠ [] := by
  constructor
  · simp only [bd, Bool.and_eq_true, decide_eq_true_eq, List.all_eq_true]
    refine ⟨fun x hx => ?_, by rw [evenS, List.length_map, rgI_length]; omega⟩
    obtain ⟨k, hk, rfl⟩ := List.mem_map.mp hx
    have := mem_rgI.mp hk
    omega
  · intro z
    have := congrArg List.length z
    rw [evenS, List.length_map, rgI_length, List.length_nil] at this
    omega
theorem ok_torus_alexander {f : Addr} {fd : FuncData} (F : Fun K "torus_alexander" "torus_alexander" s_torus_alexander f fd) (m : Bl mg) (d_divided : DefOk P w K mg base "divided" ["one", "two"] 4 (spR K frDiv)) (d_even_sum : DefOk P w K mg base "even_sum" ["n"] 1 (spR K frEven)) : FnOk P w K mg base CX0 5 f fd ["p", "q"] (spR K frTor) := by
  refine def_R F sc_torus_alexander frTor (fun ds d ⟨_, _, _, h, _⟩ => by rw [h]; rfl) fun cdv A outer s H E hr => ⟨_, (pss_cons (ps_set (i := 2) sc_torus_alexander.nd rfl (.inl rfl) (pe_callD d_divided (hr.mono (by decide)) (by rfl) (pa_cons (pe_callD d_even_sum (hr.mono (by decide)) (by rfl) (pa_cons (pe_op op_mul (pv 0) (pv 1)) pa_nil)) (pa_cons (pe_callD d_even_sum (hr.mono (by decide)) (by rfl) (pa_cons (pv 0) pa_nil)) pa_nil))))
        (pss_one (ps_ret (pe_callD d_divided (hr.mono (by decide)) (by rfl) (pa_cons (pv 2) (pa_cons (pe_callD d_even_sum (hr.mono (by decide)) (by rfl) (pa_cons (pv 1) pa_nil)) pa_nil)))))), fun ds d ⟨p, q, r, h1, ⟨a1, a2, a3, a4, he⟩, h2⟩ B => ?_⟩
  subst h1 h2
  try dsimp only [cxOf, Cx.nox, Cx.wish]
  change Run K B _ [.im (.int p), .im (.int q), .no] _
  unfold torF at he
  split at he
  · cases he
  · rename_i r1 hr1
    have hpq : 1 ≤ p * q ∧ p * q ≤ 100 := by
      have h1 : 1 * 1 ≤ p * q := Int.mul_le_mul a1 a3 (by decide) (by omega)
      have h2 : p * q ≤ 10 * 10 := Int.mul_le_mul a2 a4 (by omega) (by decide)
      omega
    obtain ⟨e1, e2⟩ := even_bd (n := p) (by omega)
    obtain ⟨e3, e4⟩ := even_bd (n := q) (by omega)
    refine run_seq (run_setR (d := sD r1) (ev_call (ds := [sD (evenS (p * q)), sD (evenS p)]) (eas_cons (ev_call (ds := [.int (p * q)]) (eas_cons (ev_opR (ev_var rfl) (ev_var rfl) (rv_mul (.inl ⟨by omega, by omega⟩))) eas_nil) ⟨_, rfl, by omega, rfl⟩) (eas_cons (ev_call (by walk_at "ev") ⟨_, rfl, by omega, rfl⟩) eas_nil)) ⟨_, _, r1, rfl, ⟨e1, e2, hr1⟩, rfl⟩) (noL_sD _) (Nat.le_of_ble_eq_true rfl) ?_)
    dsimp only [List.set]
    exact ret_R (ev_call (ds := [sD r1, sD (evenS q)]) (eas_cons (ev_var rfl) (eas_cons (ev_call (by walk_at "ev") ⟨_, rfl, by omega, rfl⟩) eas_nil)) ⟨_, _, r, rfl, ⟨e3, e4, he⟩, rfl⟩)
/-! filled, is_even_both_ways -/
def fillF (s : Ser) : Ser := (rgI (s.headD (0, 0)).1 ((s.getLastD (0, 0)).1 + 1 - (s.headD (0, 0)).1).toNat).map fun k => (k, (lookI (dictF s) k).getD 0)
def frFill : List D → List D → Prop := fun ds es => ∃ s : Ser, ds = [sD s] ∧ (bd s = true ∧ s ≠ []) ∧ es = (fillF s).map pD
theorem ok_filled {f : Addr} {fd : FuncData} (F : Fun K "filled" "filled" s_filled f fd) (m : Bl mg) : FnOk P w K mg base CX0 1 f fd ["series"] (spF K frFill) := by
  refine def_F F sc_filled frFill (fun ds d ⟨_, h, _⟩ => by rw [h]; rfl) fun cdv A outer s H E hr => ?_
  have hu : (A.deeper (envOfC "filled" (defScope s_filled) s.heap.objs.size f cdv)).units + 1 < cLine := by
    have := hr.un
    omega
  refine ⟨_, (pss_cons (ps_if (pt_cmpR (op_eqK K rfl hr.units) (pe_callB (len_K K rfl) (by rfl) m.len PySem.boot_len (pa_cons (pv 0) pa_nil)) pe_int (nomark _)) (pss_one (ps_ret (pe_lst pa_nil))) pss_nil)
        (pss_cons (ps_set (i := 1) sc_filled.nd rfl (.inr rfl) (pe_callTy (dictT_K K rfl rfl) (by rfl) m.dict (by decide +kernel) (pa_cons (pv 0) pa_nil)))
        (pss_one (ps_ret (pe_lc (own := [("k", 2)]) rfl sc_filled.nd (pi_range2 (by rfl) m.range (pa_cons (pe_ix (ix_K K rfl) (pe_ix (ix_K K rfl) (pv 0) pe_int (fun _ _ => rfl)) pe_int (fun _ _ => rfl)) (pa_cons (pe_op (op_addK K rfl) (pe_ix (ix_K K rfl) (pe_ix (ix_K K rfl) (pv 0) (pe_un un_neg pe_int) (fun _ _ => rfl)) pe_int (fun _ _ => rfl)) pe_int) pa_nil))) (blkOk_by (N := ["series", "found", "k"]) (sc := defScope s_filled) (by decide +kernel)) (fun _ _ _ _ _ => (pg_name (i := 2) sc_filled.nd rfl (Or.inl rfl))) (fun _ _ _ _ _ => pts_nil) (fun _ _ _ _ _ => (KW.pe_tup (pa_cons (pv 2) (pa_cons (pe_dget2 hu (pv 1) (pv 2) pe_int ⟨rfl, rfl, rfl, rfl⟩) pa_nil))))))))), fun ds d ⟨s, h1, ⟨hb, hne⟩, h2⟩ B => ?_⟩
  subst h1 h2
  try dsimp only [cxOf, Cx.nox, Cx.wish]
  obtain ⟨x, t, rfl⟩ : ∃ x t, s = x :: t := by
    cases s with
    | nil => exact absurd rfl hne
    | cons x xs => exact ⟨x, xs, rfl⟩
  obtain ⟨g1, g2⟩ := bd_at hb
  have hlm := g1 _ (show (x :: t).getLastD (0, 0) ∈ x :: t from by rw [List.getLastD_cons]; exact List.getLastD_mem_cons)
  have hxm := g1 x (by simp)
  have hlc := last_pD x t
  change Run K B _ [.im (sD (x :: t)), .no, .no] _
  refine run_seq (run_if (b := false) (EvB.to (b := decide ((((x :: t).map pD).length : Int) = 0)) (by walk_at "ev") (by simp; omega)) (fun z => by cases z) fun _ => run_nx ?_)
  refine run_seq (run_setD (ed_dictT (ps := x :: t) (ev_var rfl) (by omega)) (Nat.le_of_ble_eq_true rfl) ?_)
  dsimp only [List.set]
  unfold fillF
  generalize (x :: t).getLastD (0, 0) = lc at hlm hlc ⊢
  show Run K B _ _ ⟨_, rtF K B (((rgI x.1 (lc.1 + 1 - x.1).toNat).map fun k => (k, (lookI (dictF (x :: t)) k).getD 0)).map pD), _, _⟩
  refine ret_F (EvF.to (ef_lc (rgI x.1 (lc.1 + 1 - x.1).toNat) .int (fun k => [(2, .int k)]) (fun _ => true) (fun k => pD (k, (lookI (dictF (x :: t)) k).getD 0)) (it_rng2 (lo := x.1) (n := lc.1 + 1) (eas_cons (ev_opR (ev_opR (ev_var rfl) ev_int (rv_ixT (atI_nat (j := 0) rfl))) ev_int (rv_ixT (atI_nat (j := 0) rfl))) (eas_cons (ev_opR (ev_opR (ev_opR (ev_var rfl) (KW.ev_un ev_int ru_neg) (rv_ixT hlc)) ev_int (rv_ixT (atI_nat (j := 0) rfl))) ev_int rv_add) eas_nil)) (by omega)) (fun _ _ => tg_name) (fun _ _ p hp => by
    rw [List.mem_singleton.mp hp]; simp) (fun a ha => fun σ H E Q q => q H (Evl.Ex.refl H)) (fun k hk _ => em_R rfl (ev_tupR (eas_cons (ev_var rfl) (eas_cons (ev_dget2 (ev_var rfl) (ev_var rfl) ev_int) eas_nil)) rfl)) (by rw [rgI_length]; omega)) ?_)
  rw [filt, List.map_map]
  rfl
def numsF (s : Ser) : List Int := (fillF s).map (·.2)
def evenB (s : Ser) : Bool := decide (numsF s = (numsF s).reverse) || decide (numsF s = (numsF s).reverse.map fun x => -x)
def frEvenB : List D → D → Prop := fun ds d => ∃ s : Ser, ds = [sD s] ∧ (bd s = true ∧ s ≠ []) ∧ d = .bool (evenB s)
theorem shaped_lIs (xs ys : List Int) : SeqAt.shaped (.list [lI xs, lI ys]) = true := by
  have := shaped_tT [xs, ys]
  exact this
theorem ok_is_even_both_ways {f : Addr} {fd : FuncData} (F : Fun K "is_even_both_ways" "is_even_both_ways" s_is_even_both_ways f fd) (m : Bl mg) (d_filled : DefOk P w K mg base "filled" ["series"] 1 (spF K frFill)) : FnOk P w K mg base CX0 2 f fd ["series"] (spR K frEvenB) := by
  refine def_R F sc_is_even_both_ways frEvenB (fun ds d ⟨_, h, _⟩ => by rw [h]; rfl) fun cdv A outer s H E hr => ?_
  have hu5 : (A.deeper (envOfC "is_even_both_ways" (defScope s_is_even_both_ways) s.heap.objs.size f cdv)).units + 65 < cLine := by
    have := hr.un
    omega
  refine ⟨_, (pss_cons (ps_setLc (own := [("_", 2), ("x", 3)]) (i := 1) rfl sc_is_even_both_ways.nd rfl rfl (sw_true rfl rfl rfl (by decide +kernel)) (seq_K K rfl (pe_callD d_filled (hr.mono (by decide)) (by rfl) (pa_cons (pv 0) pa_nil))) (blkOk_by (N := ["series", "numbers", "_", "x"]) (sc := defScope s_is_even_both_ways) (by decide +kernel)) (fun _ _ _ _ _ => (tup_K (n := 2) K rfl rfl (pgs_cons (pg_name (i := 2) sc_is_even_both_ways.nd rfl (Or.inl rfl)) (pgs_cons (pg_name (i := 3) sc_is_even_both_ways.nd rfl (Or.inl rfl)) pgs_nil)) (by rfl) (by rfl))) (fun _ _ _ _ _ => pts_nil) (fun _ _ _ _ _ => (pv 3)))
        (pss_one (ps_ret (pe_cmpR (op_inK K rfl hu5) (pv 1) (KW.pe_tup (pa_cons (rev_K K rfl (pv 1)) (pa_cons (pe_lc (own := [("x", 3)]) rfl sc_is_even_both_ways.nd (seq_K K rfl (rev_K K rfl (pv 1))) (blkOk_by (N := ["series", "numbers", "_", "x"]) (sc := defScope s_is_even_both_ways) (by decide +kernel)) (fun _ _ _ _ _ => (pg_name (i := 3) sc_is_even_both_ways.nd rfl (Or.inl rfl))) (fun _ _ _ _ _ => pts_nil) (fun _ _ _ _ _ => (pe_un un_neg (pv 3)))) pa_nil))) (by rfl))))), fun ds d ⟨s, h1, ⟨hb, hne⟩, h2⟩ B => ?_⟩
  subst h1 h2
  try dsimp only [cxOf, Cx.nox, Cx.wish]
  obtain ⟨g1, g2⟩ := bd_at hb
  have hfl : (fillF s).length ≤ 5000 := by
    unfold fillF
    rw [List.length_map, rgI_length]
    match s, hne with
    | x :: t, _ =>
      have h1 := g1 x (by simp)
      have h2 := g1 _ (show (x :: t).getLastD (0, 0) ∈ x :: t from by rw [List.getLastD_cons]; exact List.getLastD_mem_cons)
      show (((x :: t).getLastD (0, 0)).1 + 1 - x.1).toNat ≤ 5000
      omega
  change Run K B _ [.im (sD s), .no, .no, .no] _
  refine run_seq (run_setFi (ds := (numsF s).map .int) (EvF.to (ef_lc (fillF s) pD (fun x => [(2, .int x.1), (3, .int x.2)]) (fun _ => true) (fun x => .int x.2) (it_seqL (EvF.r (KW.ef_call (by walk_at "ev") ⟨s, rfl, ⟨hb, hne⟩, rfl⟩))) (fun _ _ => tg_tup (tgl_cons tg_name (tgl_cons tg_name tgl_nil)) rfl) (fun _ _ p hp => by
      simp only [List.mem_cons, List.not_mem_nil, or_false] at hp
      rcases hp with rfl | rfl <;> simp) (fun a ha => fun σ H E Q q => q H (Evl.Ex.refl H)) (fun x hx _ => em_R rfl (ev_var rfl)) (by omega)) (by rw [filt, numsF, List.map_map]; rfl)) (noLs_ints _) (Nat.le_of_ble_eq_true rfl) ?_)
  dsimp only [List.set]
  have hnl : (numsF s).length ≤ 5000 := by rw [numsF, List.length_map]; exact hfl
  unfold evenB
  generalize numsF s = ns at hnl ⊢
  have hrev : ∀ {e2 e3 : Sl}, EvR K (tRevX K (tVar 1)) (gm [.im (sD s), .im (lI ns), e2, e3]) (lI ns.reverse) := EvR.to (ev_revD (ev_var rfl) (RevD.lst _)) (by rw [rev_ints])
  refine ret_R (EvR.to (ev_opR (d := lI ns) (ev_var rfl) (ev_tupR (ds := [lI ns.reverse, lI (ns.reverse.map fun x => -x)]) (eas_cons hrev (eas_cons (EvF.r (EvF.to (ef_lc ns.reverse .int (fun x => [(3, .int x)]) (fun _ => true) (fun x => .int (-x)) (it_seqL (EvR.to (ev_revD (ev_var rfl) (RevD.lst _)) (by rw [rev_ints]))) (fun _ _ => tg_name) (fun _ _ p hp => by
      rw [List.mem_singleton.mp hp]; simp) (fun a ha => fun σ H E Q q => q H (Evl.Ex.refl H)) (fun a ha _ => em_R rfl (by walk_at "ev")) (by rw [List.length_reverse]; omega)) (by rw [filt, List.map_map]; rfl))) eas_nil)) rfl) (rv_inG (ds := [lI ns.reverse, lI (ns.reverse.map fun x => -x)]) rfl rfl (shaped_tI ns) (shaped_lIs _ _))) ?_)
  simp only [List.any_cons, List.any_nil, Bool.or_false, eqv_lI]
  congr 2
  · exact decide_eq_decide.mpr eq_comm
  · exact decide_eq_decide.mpr eq_comm
end
end K71

set_option Elab.async false
set_option linter.all false
set_option maxRecDepth 1000000
namespace K71
open KW SE
def madeB (p q k : Int) : Bool := decide (0 < (((rgI 0 (k / p + 1).toNat).filter fun j => decide ((k - j * p) % q = 0)).length : Int))
def chkTot (s : Ser) (p q : Int) : List Int → Int → Bool
  | [], _ => true
  | k :: ks, t => decide (t + (lookI (dictF s) k).getD 0 = if madeB p q k then 1 else 0) && chkTot s p q ks (t + (lookI (dictF s) k).getD 0)
def upB : Ser → Bool
  | x :: y :: t => decide (x.1 < y.1) && upB (y :: t)
  | _ => true
def dueI (p q : Int) : Int := if q % 2 = 0 then p else if p % 2 = 0 then q else 1
def chkS (p q : Int) (s : Ser) : Bool :=
  bd s && !s.isEmpty && decide (torF q p = some s) && decide (widthF s = (p - 1) * (q - 1)) && evenB s && s.all (fun x => !decide (x.2 = 0)) && upB s
    && decide (valF s 1 = 1) && decide ((if valF s (-1) < 0 then -valF s (-1) else valF s (-1)) = dueI p q) && chkTot s p q (rgI 0 ((p - 1) * (q - 1) + 1).toNat) 0
    && (rgI 0 s.length).all (fun k => decide ((s.getD k.toNat (0, 0)).2 = 1 - 2 * (k % 2)))
    && bd (mulF s (evenS p)) && decide (s.length * (evenS p).length ≤ 5000) && decide ((mulF s (evenS p)).length * (evenS q).length ≤ 5000) && decide (mulF (mulF s (evenS p)) (evenS q) = evenS (p * q))
def chk (p q : Int) : Bool := match torF p q with
  | none => false
  | some s => chkS p q s
def chkP (p : Int) : Bool := (rgI 1 10).all fun q => !decide (((Int.gcd p q : Nat) : Int) = 1) || chk p q
set_option maxHeartbeats 0 in
theorem c1 : (chkP 1 && chkP 2 && chkP 3) = true := by decide +kernel
set_option maxHeartbeats 0 in
theorem c4 : (chkP 4 && chkP 5) = true := by decide +kernel
set_option maxHeartbeats 0 in
theorem c6 : (chkP 6) = true := by decide +kernel
set_option maxHeartbeats 0 in
theorem c7 : (chkP 7) = true := by decide +kernel
set_option maxHeartbeats 0 in
theorem c8 : (chkP 8) = true := by decide +kernel
set_option maxHeartbeats 0 in
theorem c9 : (chkP 9) = true := by decide +kernel
end K71

set_option Elab.async false
set_option linter.all false
set_option maxRecDepth 100000
set_option maxHeartbeats 8000000
namespace K71
open PySem PySem.Spec PyProof.Rows L2 KW SE
local macro_rules | `(tactic| walk_at "ev") => `(tactic| repeat' (first
  | with_reducible exact ev_int | with_reducible exact ev_str | with_reducible exact ev_bool | with_reducible exact ev_none
  | ((with_reducible apply ev_var); exact rfl)
  | with_reducible exact rv_add | with_reducible exact rv_sub | with_reducible exact rv_lt | with_reducible exact rv_le | with_reducible exact rv_gt | with_reducible exact rv_ge
  | with_reducible exact rv_eqI | with_reducible exact rv_neI | with_reducible exact rv_eqB | with_reducible exact rv_neB | with_reducible exact rv_eqT | with_reducible exact rv_neT | with_reducible exact rv_eqLI | with_reducible exact rv_neLI
  | with_reducible exact rv_isB | with_reducible exact rv_notB | with_reducible exact rv_inLI | with_reducible exact rv_inTI | with_reducible exact rv_niLI | with_reducible exact rv_niTI
  | ((with_reducible apply rv_eqS) <;> decide +kernel) | ((with_reducible apply rv_neS) <;> decide +kernel)
  | with_reducible apply rv_mul | with_reducible apply rv_mod | with_reducible apply rv_fdiv | with_reducible apply rv_pow | with_reducible apply rv_ixTI | with_reducible apply rv_ixLI | with_reducible apply rv_ixT | with_reducible apply rv_ixL | with_reducible apply rv_addT
  | with_reducible exact ru_neg
  | with_reducible exact rc_abs | with_reducible exact rc_max | with_reducible exact rc_min | with_reducible exact rc_minT | with_reducible exact rc_intI | with_reducible exact rc_intB | with_reducible exact rc_lenTI | with_reducible exact rc_lenLI | with_reducible exact rc_lenT | with_reducible exact rc_lenL | with_reducible exact rc_tupL | with_reducible exact rc_tupT | with_reducible exact rc_sum | with_reducible exact rc_all
  | with_reducible apply ev_opR
  | with_reducible apply ev_isiR
  | with_reducible exact isi_int | with_reducible exact isi_int_bool | with_reducible exact isi_tup | with_reducible exact isi_str
  | with_reducible apply ev_cbR
  | with_reducible apply KW.ev_un
  | with_reducible apply ev_tupR
  | ((with_reducible show okT _ = true); exact rfl)
  | with_reducible apply ev_revD
  | with_reducible exact RevD.lst _ | with_reducible exact RevD.tup _
  | with_reducible apply ev_slD
  | with_reducible exact SlD.lst _ | with_reducible exact SlD.tup _
  | with_reducible apply ef_lstR
  | with_reducible apply KW.ef_call
  | with_reducible apply KW.ef_addX_L
  | with_reducible apply KW.ef_listRg1 | with_reducible apply KW.ev_tupRg1 | with_reducible apply KW.ev_tupRg2
  | with_reducible apply ep_some
  | with_reducible exact ep_none
  | with_reducible apply KW.eb_test
  | with_reducible apply KW.eb_B
  | with_reducible apply KW.eb_not
  | with_reducible apply KW.ev_not
  | with_reducible exact eas_nil
  | with_reducible apply eas_cons
  | with_reducible apply KW.eb_and
  | with_reducible apply KW.eb_or
  | with_reducible apply KW.ev_and
  | with_reducible apply KW.ev_or
  | with_reducible apply KW.ev_chain
  | with_reducible apply KW.ev_call | with_reducible apply KW.ev_callF
  | walk_at "fr"
  | with_reducible refine fun (_ : _ = true) => ?_
  | with_reducible refine fun (_ : _ = false) => ?_))
local macro_rules | `(tactic| walk_at "sd") => `(tactic| first
  | assumption | omega | exact rfl | exact noL_tI _ | exact noLs_ints _ | exact Nat.le_of_ble_eq_true rfl
  | (refine Or.inl ⟨?_, ?_⟩ <;> omega) | (refine Or.inr ⟨?_, ?_⟩ <;> omega) | (refine And.intro ?_ ?_ <;> omega) | exact ⟨by omega, by omega, by decide⟩
  | exact ⟨_, _, rfl, rfl⟩)
local macro_rules | `(tactic| walk_at "set") => `(tactic| (apply run_seq; apply run_setR; (focus walk_at "ev"); all_goals (try walk_at "sd"); try dsimp only [List.set]))
local macro_rules | `(tactic| walk_at "setF") => `(tactic| (apply run_seq; apply run_setF; (focus walk_at "ev"); all_goals (try walk_at "sd"); try dsimp only [List.set]))
local macro_rules | `(tactic| walk_at "if") => `(tactic| (apply run_seq; apply run_if; (focus walk_at "ev"); all_goals (try walk_at "sd")))
local macro_rules | `(tactic| walk_at "if1") => `(tactic| (apply run_if; (focus walk_at "ev"); all_goals (try walk_at "sd")))
local macro_rules | `(tactic| walk_at "ret") => `(tactic| (apply ret_R; apply EvR.to; (focus walk_at "ev"); all_goals (try walk_at "sd")))
local macro_rules | `(tactic| walk_at "app") => `(tactic| (apply run_app; exact rfl; (focus walk_at "ev"); all_goals (try walk_at "sd"); try dsimp only [List.set]))
local macro_rules | `(tactic| walk_at "fr") => `(tactic| first | exact ⟨_, _, rfl, by omega, rfl⟩ | exact ⟨_, rfl, rfl⟩ | exact ⟨_, _, rfl, rfl⟩ | exact ⟨_, _, _, rfl, rfl⟩)

section
variable {P : Program} {w : World} {K : PySem.W.Frag} {mg : Str → Option Value} {base : Heap}
/-! _law_cell -/
def frCell : List D → D → Prop := fun ds d => ∃ (ns : List Int) (k : Int), ds = [lI ns, .int k] ∧ 0 ≤ k ∧ d = .int (ns.getD k.toNat 0)
theorem ok__law_cell {f : Addr} {fd : FuncData} (F : Fun K "_law_cell" "_law_cell" s__law_cell f fd) (m : Bl mg) : FnOk P w K mg base CX0 1 f fd ["script", "k"] (spR K frCell) := by
  refine def_R F sc__law_cell frCell (fun ds d ⟨_, _, h, _⟩ => by rw [h]; rfl) fun cdv A outer s H E hr => ⟨_, (pss_cons (ps_if (pt_cmpR op_lt (pv 1) (pe_callB (len_K K rfl) (by rfl) m.len PySem.boot_len (pa_cons (pv 0) pa_nil)) (nomark _)) (pss_one (ps_ret (pe_ix (ix_K K rfl) (pv 0) (pv 1) (fun _ _ => rfl)))) pss_nil)
        (pss_one (ps_ret pe_int))), fun ds d ⟨ns, k, h1, h0, h2⟩ B => ?_⟩
  subst h1 h2
  try dsimp only [cxOf, Cx.nox, Cx.wish]
  change Run K B _ [.im (lI ns), .im (.int k)] _
  walk_at "if"
  · intro h
    have h := of_decide_eq_true h
    walk_at "ret"
  · intro h
    have h := of_decide_eq_false h
    refine run_nx ?_
    walk_at "ret"
    rw [List.getD_eq_getElem?_getD, List.getElem?_eq_none (by omega)]
    rfl

/-! _law_draws -/
def blend (cell k : Int) : Int :=
  ((((cell * 48271 + (k + 1) * 69621) % 2147483647 * ((cell * 48271 + (k + 1) * 69621) % 2147483647) + (cell * 48271 + (k + 1) * 69621) % 2147483647 * 16807 + k * 7919) % 2147483629 *
    (((cell * 48271 + (k + 1) * 69621) % 2147483647 * ((cell * 48271 + (k + 1) * 69621) % 2147483647) + (cell * 48271 + (k + 1) * 69621) % 2147483647 * 16807 + k * 7919) % 2147483629) + cell + 13 * k) % 2147483587) / 7 % 4096
def drawStep (cell : Int) (st : List Int × Int) (k : Int) : List Int × Int :=
  if 10 ^ 18 ≤ cell ∧ 0 < st.2 then (st.1 ++ [st.2 % 4096], st.2 / 4096) else (st.1 ++ [blend cell k], st.2)
def draws (cell : Int) : List Int := ((rgI 0 20).foldl (drawStep cell) ([], cell)).1
theorem drawStep_ok (cell : Int) (st : List Int × Int) (k : Int) (h : ∀ x ∈ st.1, 0 ≤ x ∧ x < (4096 : Int)) : (drawStep cell st k).1.length = st.1.length + 1 ∧ ∀ x ∈ (drawStep cell st k).1, 0 ≤ x ∧ x < (4096 : Int) := by
  unfold drawStep
  split
  · refine ⟨by simp, fun x hx => ?_⟩
    rcases List.mem_append.mp hx with hx | hx
    · exact h x hx
    · rw [List.mem_singleton.mp hx]; omega
  · refine ⟨by simp, fun x hx => ?_⟩
    rcases List.mem_append.mp hx with hx | hx
    · exact h x hx
    · rw [List.mem_singleton.mp hx]
      unfold blend
      omega
theorem drawFold_ok (cell : Int) : ∀ (l : List Int) (st : List Int × Int), (∀ x ∈ st.1, 0 ≤ x ∧ x < (4096 : Int)) → (l.foldl (drawStep cell) st).1.length = st.1.length + l.length ∧ ∀ x ∈ (l.foldl (drawStep cell) st).1, 0 ≤ x ∧ x < (4096 : Int)
  | [], st, h => ⟨rfl, h⟩
  | k :: l, st, h => by
    obtain ⟨h1, h2⟩ := drawStep_ok cell st k h
    obtain ⟨h3, h4⟩ := drawFold_ok cell l (drawStep cell st k) h2
    refine ⟨?_, h4⟩
    rw [List.foldl_cons, h3, h1, List.length_cons]
    omega
theorem draws_ok (cell : Int) : (draws cell).length = 20 ∧ ∀ x ∈ draws cell, 0 ≤ x ∧ x < (4096 : Int) := drawFold_ok cell (rgI 0 20) ([], cell) (fun _ h => by cases h)
def frDraws : List D → List D → Prop := fun ds es => ∃ cell : Int, ds = [.int cell, .int 20] ∧ es = (draws cell).map .int
theorem ok__law_draws {f : Addr} {fd : FuncData} (F : Fun K "_law_draws" "_law_draws" s__law_draws f fd) (m : Bl mg) : FnOk P w K mg base CX0 1 f fd ["cell", "amount"] (spF K frDraws) := by
  refine def_F F sc__law_draws frDraws (fun ds d ⟨_, h, _⟩ => by rw [h]; rfl) fun cdv A outer s H E hr => ⟨_, (pss_cons (ps_set (i := 2) sc__law_draws.nd rfl (.inl rfl) (pe_lst pa_nil))
        (pss_cons (ps_set (i := 3) sc__law_draws.nd rfl (.inl rfl) (pv 0))
        (pss_cons (ps_for PassesOwn.never rfl (pi_range1 (by rfl) m.range (pa_cons (pv 1) pa_nil)) (pg_name (i := 4) sc__law_draws.nd rfl (Or.inl rfl)) (pss_one (ps_if (PW.pt (pw_and (pt_cmpR op_ge (pv 0) (pe_op op_pow pe_int pe_int) (nomark _)) (pw_and1 (pt_cmpR op_gt (pv 3) pe_int (nomark _))))) (pss_cons (ps_expr (pe_bm PySem.F.plainAttrs_list PySem.F.slot_list_append PySem.F.type_list_append mt_append (pv 2) (pa_cons (pe_op op_mod (pe_callTy call_int1 (by rfl) m.int (by decide +kernel) (pa_cons (pv 3) pa_nil)) pe_int) pa_nil)))
        (pss_one (ps_set (i := 3) sc__law_draws.nd rfl (.inl rfl) (pe_op op_fdiv (pv 3) pe_int)))) (pss_cons (ps_set (i := 5) sc__law_draws.nd rfl (.inl rfl) (pe_op op_mod (pe_callTy call_int1 (by rfl) m.int (by decide +kernel) (pa_cons (pe_op (op_addK K rfl) (pe_op op_mul (pv 0) pe_int) (pe_op op_mul (pe_op (op_addK K rfl) (pv 4) pe_int) pe_int)) pa_nil)) pe_int))
        (pss_cons (ps_set (i := 5) sc__law_draws.nd rfl (.inl rfl) (pe_op op_mod (pe_callTy call_int1 (by rfl) m.int (by decide +kernel) (pa_cons (pe_op (op_addK K rfl) (pe_op (op_addK K rfl) (pe_op op_mul (pv 5) (pv 5)) (pe_op op_mul (pv 5) pe_int)) (pe_op op_mul (pv 4) pe_int)) pa_nil)) pe_int))
        (pss_cons (ps_set (i := 5) sc__law_draws.nd rfl (.inl rfl) (pe_op op_mod (pe_callTy call_int1 (by rfl) m.int (by decide +kernel) (pa_cons (pe_op (op_addK K rfl) (pe_op (op_addK K rfl) (pe_op op_mul (pv 5) (pv 5)) (pv 0)) (pe_op op_mul pe_int (pv 4))) pa_nil)) pe_int))
        (pss_one (ps_expr (pe_bm PySem.F.plainAttrs_list PySem.F.slot_list_append PySem.F.type_list_append mt_append (pv 2) (pa_cons (pe_op op_mod (pe_op op_fdiv (pv 5) pe_int) pe_int) pa_nil))))))))))
        (pss_one (ps_ret (pv 2)))))), fun ds d ⟨cell, h1, h2⟩ B => ?_⟩
  subst h1 h2
  try dsimp only [cxOf, Cx.nox, Cx.wish]
  change Run K B _ [.im (.int cell), .im (.int 20), .no, .no, .no, .no] _
  walk_at "setF"
  walk_at "set"
  refine run_seq (run_for_fold (rgI 0 20) .int (fun k => [(4, .int k)]) (its_rng1 (n := 20) (by walk_at "ev") (by omega)) (fun _ _ => tg_name)
    (fun st S' => ∃ e4 e5, S' = [.im (.int cell), .im (.int 20), .ow (st.1.map .int), .im (.int st.2), e4, e5]) (drawStep cell) ([], cell) ⟨_, _, rfl⟩ ?_ ?_ ?_)
  · rintro b k S' _ ⟨e4, e5, rfl⟩ p hp
    rw [List.mem_singleton.mp hp]
    exact Nat.le_of_ble_eq_true rfl
  · rintro i b k S' hk hb ⟨e4, e5, rfl⟩
    have hl : (b.1.map PyData.int).length < 100000 := by
      obtain ⟨q, _⟩ := drawFold_ok cell ((rgI 0 20).take i) ([], cell) (fun _ h => by cases h)
      rw [← hb] at q
      rw [List.length_map, q, List.length_take]
      simp [rgI_length]
      omega
    change Run K B _ [.im (.int cell), .im (.int 20), .ow (b.1.map .int), .im (.int b.2), .im (.int k), e5] _
    have hp : (10 : Int) ^ (18 : Int).toNat = 10 ^ 18 := rfl
    walk_at "if1"
    · intro h
      simp only [Bool.and_eq_true, decide_eq_true_eq, hp] at h
      apply run_seq
      walk_at "app"
      apply run_setR
      (focus walk_at "ev")
      all_goals (try walk_at "sd")
      have e : drawStep cell b k = (b.1 ++ [b.2 % 4096], b.2 / 4096) := if_pos h
      simp only [e, List.map_append, List.set]
      exact ⟨_, _, rfl⟩
    · intro h
      simp only [Bool.and_eq_false_iff, decide_eq_false_iff_not, hp] at h
      have h' : ¬ (10 ^ 18 ≤ cell ∧ 0 < b.2) := fun z => h.elim (fun y => y z.1) (fun y => y z.2)
      walk_at "set"
      walk_at "set"
      walk_at "set"
      walk_at "app"
      have e : drawStep cell b k = (b.1 ++ [blend cell k], b.2) := if_neg h'
      simp only [e, List.map_append, List.set]
      exact ⟨_, _, rfl⟩
  · rintro S' ⟨e4, e5, rfl⟩
    exact ret_O rfl

/-! _law_pool -/
theorem run_pool {B : Hp} {S : SS} {ms : List Int} {Q : VK} {nx bk ct : SS → Prop} (hs : S[1]? = some (.ow (ms.map .int)))
    (hq : ∀ (l r c : Addr) (H' : Hp), B l = none → B r = none → B c = none → l ≠ c → r ≠ c → Evl.Ex B H' → H' l = some (.lst [.ref r, .ref c]) → H' r = some (.lst (ms.map .int)) → H' c = some (.lst [.int 0]) → Q (.ref l) H') :
    Run K B (tRet (tLst (tCons (tVar 1) (tCons (tLst (tCons (tC (.int 0)) tNil)) tNil)))) S ⟨nx, Q, bk, ct⟩ := fun B' e D σ H sb nx rt bk ct => by
  have ex := sb.ex
  obtain ⟨Hm, A, eB, sa⟩ := sb
  obtain ⟨v, hv, ho⟩ := sa.own 1 _ hs (by intro z; cases z)
  obtain ⟨r, vs, rfl, hA, hr, hd⟩ := ho
  rw [DpAll.ints hd] at hr
  refine ⟨_, hv, by show 1 ≤ sizeLine; decide, fun c hc => ⟨by show 2 ≤ sizeLine; decide, fun l hl => ?_⟩⟩
  have e1 : Evl.Ex H (upd H c (.lst [.int 0])) := Evl.Ex.new hc
  have e2 : Evl.Ex (upd H c (.lst [.int 0])) (upd (upd H c (.lst [.int 0])) l (.lst [.ref r, .ref c])) := Evl.Ex.new hl
  have nlc : l ≠ c := fun z => by subst z; rw [upd_same] at hl; cases hl
  have nrc : r ≠ c := ne_of_none hr hc
  exact rt _ _ (hq l r c _ (Evl.fresh_back ((e.trans ex).trans e1) hl) (Evl.fresh_back (e.trans eB) (sa.out 1 r (by rw [hA]; simp))) (Evl.fresh_back (e.trans ex) hc) nlc nrc ((e.trans ex).trans (e1.trans e2)) upd_same (e2 _ _ (e1 _ _ hr)) (e2 _ _ upd_same))
theorem ok__law_pool {f : Addr} {fd : FuncData} (F : Fun K "_law_pool" "_law_pool" s__law_pool f fd) (m : Bl mg) (hu5 : True) (d__law_cell : DefOk P w K mg base "_law_cell" ["script", "k"] 1 (spR K frCell)) (d__law_draws : DefOk P w K mg base "_law_draws" ["cell", "amount"] 1 (spF K frDraws)) :
    FnOk P w K mg base CX0 2 f fd ["script"] (spPool K) := by
  refine F.ok sc__law_pool (fun vs H Q E h => ?_) (fun cdv A outer s H vs Q E hr h => ?_)
  · obtain ⟨ns, r, _⟩ := h
    rw [Paired.length r]
    rfl
  have hu5 : (A.deeper (envOfC "_law_pool" (defScope s__law_pool) s.heap.objs.size f cdv)).units + 65 < cLine := by
    have := hr.un
    omega
  refine ⟨_, (pss_cons (ps_set (i := 1) sc__law_pool.nd rfl (.inl rfl) (pe_lst pa_nil))
        (pss_cons (ps_for PassesOwn.never rfl (pi_range1 (by rfl) m.range (pa_cons (pe_callB (min_K K rfl rfl hu5) (by rfl) m.min (by decide +kernel) (pa_cons pe_int (pa_cons (pe_callB (call_max2 rfl) (by rfl) m.max (by decide +kernel) (pa_cons pe_int (pa_cons (pe_callB (len_K K rfl) (by rfl) m.len PySem.boot_len (pa_cons (pv 0) pa_nil)) pa_nil))) pa_nil))) pa_nil)) (pg_name (i := 2) sc__law_pool.nd rfl (Or.inl rfl)) (pss_one (ps_set (i := 1) sc__law_pool.nd rfl (.inl rfl) (pe_op (op_addK K rfl) (pv 1) (pe_callD d__law_draws (hr.mono (by decide)) (by rfl) (pa_cons (pe_op (op_addK K rfl) (pe_callD d__law_cell (hr.mono (by decide)) (by rfl) (pa_cons (pv 0) (pa_cons (pv 2) pa_nil))) (pe_op op_mul pe_int (pv 2))) (pa_cons pe_int pa_nil)))))))
        (pss_one (ps_ret (pe_lst (pa_cons (pv 1) (pa_cons (pe_lst (pa_cons pe_int pa_nil)) pa_nil))))))), ?_⟩
  obtain ⟨ns, r, hl, q⟩ := h
  try dsimp only [cxOf, Cx.nox, Cx.wish]
  suffices hrun : Run K H _ [.im (lI ns), .no, .no] ⟨fun _ => False, Q, fun _ => False, fun _ => False⟩ from
    hrun H (Evl.Ex.refl H) _ _ H (start_sb (N := ["script", "rows", "k"]) r) (fun _ _ _ _ z => z.elim) (fun _ _ z => z) (fun _ _ _ _ z => z.elim) (fun _ _ _ _ z => z.elim)
  have hN : 1 ≤ poolN (ns.length : Int) ∧ poolN (ns.length : Int) ≤ 4 := by
    unfold poolN
    split <;> split <;> omega
  walk_at "setF"
  refine run_seq (run_for (rgI 0 (poolN (ns.length : Int)).toNat) .int (fun k => [(2, .int k)]) (its_rng1 (n := poolN (ns.length : Int)) (by walk_at "ev") (by omega)) (fun _ _ => tg_name)
    (fun i S' => ∃ (ms : List Int) (e2 : Sl), S' = [.im (lI ns), .ow (ms.map .int), e2] ∧ ms.length = 20 * i ∧ ∀ x ∈ ms, 0 ≤ x ∧ x < (4096 : Int)) ⟨[], _, rfl, rfl, fun _ h => by cases h⟩ ?_ ?_ ?_)
  · rintro i k S' _ ⟨ms, e2, rfl, _⟩ p hp
    rw [List.mem_singleton.mp hp]
    exact Nat.le_of_ble_eq_true rfl
  · rintro i k S' hk ⟨ms, e2, rfl, h1, h2⟩
    have hi : i < (poolN (ns.length : Int)).toNat := by
      obtain ⟨z, _⟩ := List.getElem?_eq_some_iff.mp hk
      rwa [rgI_length] at z
    rw [rgI_get hi] at hk
    cases hk
    change Run K H _ [.im (lI ns), .ow (ms.map .int), .im (.int (0 + (i : Int)))] _
    obtain ⟨d1, d2⟩ := draws_ok (ns.getD (0 + (i : Int)).toNat 0 + 7 * (0 + (i : Int)))
    have hlen : (ms.map PyData.int).length + ((draws (ns.getD (0 + (i : Int)).toNat 0 + 7 * (0 + (i : Int)))).map PyData.int).length ≤ 100000 := by
      rw [List.length_map, List.length_map, h1, d1]
      omega
    apply run_cat
    · exact rfl
    · walk_at "ev"
      all_goals (try walk_at "sd")
    · exact noLs_ints _
    · exact hlen
    · refine ⟨ms ++ draws (ns.getD (0 + (i : Int)).toNat 0 + 7 * (0 + (i : Int))), _, by rw [List.map_append]; rfl, by rw [List.length_append, h1, d1]; omega, fun x hx => ?_⟩
      rcases List.mem_append.mp hx with hx | hx
      · exact h2 x hx
      · exact d2 x hx
  · rintro S' ⟨ms, e2, rfl, h1, h2⟩
    rw [rgI_length] at h1
    exact run_pool (ms := ms) rfl fun l r c H' a1 a2 b1 b2 b3 b4 b5 b6 b7 => q l r c ms H' a1 a2 b1 b2 b3 b4 b5 b6 b7 (by omega) (by omega) h2
/-! _law_pick -/
def okPick : List D → Prop := fun ds => ∃ n : Int, ds = [.int n] ∧ 0 < n
def frPick : List D → D → Prop := fun ds d => ∃ n i : Int, ds = [.int n] ∧ d = .int i ∧ 0 ≤ i ∧ i < n
theorem ok__law_pick {f : Addr} {fd : FuncData} (F : Fun K "_law_pick" "_law_pick" s__law_pick f fd) (m : Bl mg) : FnOk P w K mg base CX0 1 f fd ["pool", "amount"] (spX K okPick frPick 1) := by
  refine F.ok sc__law_pick (fun vs H Q E h => ?_) (fun cdv A outer s H vs Q E hr h => ?_)
  · obtain ⟨l, c, at', ws, ds, rfl, _, _, rr, ⟨n, rfl, _⟩, _⟩ := h
    obtain ⟨w1, rfl, _⟩ := rp1 rr
    rfl
  obtain ⟨l, c, at', ws, ds, rfl, ⟨r, ns, g1, g2, g3, ne1, ne2, g4, g6, g7, g8⟩, hm, rr, ⟨n, rfl, hn⟩, q⟩ := h
  obtain ⟨w1, rfl, r1⟩ := rp1 rr
  obtain rfl := r1.int
  refine ⟨_, (pss_cons (ps_set (i := 2) sc__law_pick.nd rfl (.inl rfl) (pe_ix (ix_K K rfl) (pe_ix (ix_K K rfl) (pv 0) pe_int (fun _ _ => rfl)) pe_int (fun _ _ => rfl)))
        (pss_cons (ps_asg (pe_op (op_addK K rfl) (pv 2) pe_int) (pg_sub (pe_ix (ix_K K rfl) (pv 0) pe_int (fun _ _ => rfl)) pe_int set_list))
        (pss_cons (ps_set (i := 3) sc__law_pick.nd rfl (.inl rfl) (pe_op op_fdiv (pv 2) (pe_callB (len_K K rfl) (by rfl) m.len PySem.boot_len (pa_cons (pe_ix (ix_K K rfl) (pv 0) pe_int (fun _ _ => rfl)) pa_nil))))
        (pss_one (ps_ret (pe_op op_mod (pe_callTy call_int1 (by rfl) m.int (by decide +kernel) (pa_cons (pe_op (op_addK K rfl) (pe_op (op_addK K rfl) (pe_ix (ix_K K rfl) (pe_ix (ix_K K rfl) (pv 0) pe_int (fun _ _ => rfl)) (pe_op op_mod (pv 2) (pe_callB (len_K K rfl) (by rfl) m.len PySem.boot_len (pa_cons (pe_ix (ix_K K rfl) (pv 0) pe_int (fun _ _ => rfl)) pa_nil))) (fun _ _ => rfl)) (pe_op op_mul (pv 3) pe_int)) (pe_op op_mul (pv 3) (pv 2))) pa_nil)) (pv 1))))))), ?_⟩
  try dsimp only [cxOf, Cx.nox, Cx.wish]
  -- at = pool[1][0]
  refine ⟨.ref l, rfl, .inl ⟨l, [.ref r, .ref c], 1, .ref c, rfl, rfl, SqL.of g1, rfl, .inl ⟨c, [.int at'], 0, .int at', rfl, rfl, SqL.of g3, rfl, ?_⟩⟩⟩
  -- pool[1][0] = at + 1
  refine ⟨.int at', rfl, .inl ⟨at', 1, rfl, rfl, ⟨.ref l, rfl, .inl ⟨l, [.ref r, .ref c], 1, .ref c, rfl, rfl, SqL.of g1, rfl, ⟨c, [.int at'], 0, 0, rfl, rfl, g3, rfl, ?_⟩⟩⟩⟩⟩
  generalize hH1 : upd H c (.lst (List.set [.int at'] 0 (.int (at' + 1)))) = H1
  have k1 : H1 l = some (.lst [.ref r, .ref c]) := by rw [← hH1, upd_ne ne1]; exact g1
  have k2 : H1 r = some (.lst (ns.map .int)) := by rw [← hH1, upd_ne ne2]; exact g2
  have k3 : H1 c = some (.lst [.int (at' + 1)]) := by rw [← hH1, upd_same]; rfl
  have k4 : ∀ a o, a ≠ c → H a = some o → H1 a = some o := fun a o h e => by rw [← hH1, upd_ne h]; exact e
  have hlen : (ns.map V.int).length = ns.length := List.length_map ..
  -- turn = at // len(pool[0])
  refine ⟨.int at', rfl, ⟨.ref l, rfl, .inl ⟨l, [.ref r, .ref c], 0, .ref r, rfl, rfl, SqL.of k1, rfl, ⟨r, ns.map .int, rfl, .inl (SqL.of k2), ⟨at', ((ns.map V.int).length : Int), rfl, rfl, ⟨by rw [hlen]; omega, by rw [hlen]; omega⟩, ?_⟩⟩⟩⟩⟩
  rw [hlen]
  have n0 : (0 : Int) < (ns.length : Int) := by omega
  have t0 : 0 ≤ at' / (ns.length : Int) := Int.ediv_nonneg g4 (Int.le_of_lt n0)
  have t1 : at' / (ns.length : Int) ≤ at' := Int.ediv_le_self _ g4
  have m0 := Int.emod_nonneg at' (Int.ne_of_gt n0)
  have m1 := Int.emod_lt_of_pos at' n0
  have hat : atI (ns.map V.int) (at' % (ns.length : Int)) = some (.int (ns.getD (at' % (ns.length : Int)).toNat 0)) := atI_map (atI_int 0 m0 m1)
  -- the drawn number
  refine ⟨.ref l, rfl, .inl ⟨l, [.ref r, .ref c], 0, .ref r, rfl, rfl, SqL.of k1, rfl, ⟨.int at', rfl, ⟨.ref l, rfl, .inl ⟨l, [.ref r, .ref c], 0, .ref r, rfl, rfl, SqL.of k1, rfl, ⟨r, ns.map .int, rfl, .inl (SqL.of k2), ⟨at', ((ns.map V.int).length : Int), rfl, rfl, by rw [hlen]; exact n0, ?_⟩⟩⟩⟩⟩⟩⟩
  rw [hlen]
  refine .inl ⟨r, ns.map .int, _, _, rfl, rfl, SqL.of k2, hat, ?_⟩
  refine ⟨_, rfl, _, _, rfl, rfl, .inr ⟨by decide, by decide⟩, .inl ⟨_, _, rfl, rfl, ⟨_, rfl, _, rfl, _, _, rfl, rfl, .inl ⟨by omega, by omega⟩, .inl ⟨_, _, rfl, rfl, .inl ⟨_, rfl, ⟨_, rfl, _, _, rfl, rfl, hn, ?_⟩⟩⟩⟩⟩⟩
  refine q _ _ H1 (at' + 1) ⟨n, _, rfl, rfl, Int.emod_nonneg _ (by omega), Int.emod_lt_of_pos _ hn⟩ rfl (.int _) k4 k3 (by omega) (by omega)

/-! common, _law_gcd -/
theorem gcd_step (a b : Int) (ha : 0 ≤ a) (hb : 0 < b) : Int.gcd b (a % b) = Int.gcd a b := by
  rw [Int.gcd_comm a b]
  have h : a % b = a - b * (a / b) := by have := Int.mul_ediv_add_emod a b; omega
  rw [h]
  have := Int.gcd_sub_mul_right_right b a (a / b)
  rw [← this, Int.mul_comm b (a / b)]
def frGcd : List D → D → Prop := fun ds d => ∃ a b : Int, ds = [.int a, .int b] ∧ d = .int (Int.gcd a b : Nat)
theorem abs_if (a : Int) : (if a < 0 then -a else a) = (a.natAbs : Int) := by split <;> omega
theorem ok__law_gcd {f : Addr} {fd : FuncData} (F : Fun K "_law_gcd" "_law_gcd" s__law_gcd f fd) (m : Bl mg) : FnOk P w K mg base CX0 1 f fd ["a", "b"] (spR K frGcd) := by
  refine def_R F sc__law_gcd frGcd (fun ds d ⟨_, _, h, _⟩ => by rw [h]; rfl) fun cdv A outer s H E hr => ⟨_, (pss_cons (ps_par (i := 0) (j := 1) rfl sc__law_gcd.nd rfl rfl (by decide) rfl rfl (pa_cons (pe_callB call_abs (by rfl) m.abs (by decide +kernel) (pa_cons (pv 0) pa_nil)) (pa_cons (pe_callB call_abs (by rfl) m.abs (by decide +kernel) (pa_cons (pv 1) pa_nil)) pa_nil)) (by rfl))
        (pss_cons (ps_while PassesOwn.never (pt_cmpR (op_neK K rfl hr.units) (pv 1) pe_int (nomark _)) (pss_one (ps_par (i := 0) (j := 1) rfl sc__law_gcd.nd rfl rfl (by decide) rfl rfl (pa_cons (pv 1) (pa_cons (pe_op op_mod (pe_callTy call_int1 (by rfl) m.int (by decide +kernel) (pa_cons (pv 0) pa_nil)) (pv 1)) pa_nil)) (by rfl))))
        (pss_one (ps_ret (pv 0))))), fun ds d ⟨a, b, h1, h2⟩ B => ?_⟩
  subst h1 h2
  try dsimp only [cxOf, Cx.nox, Cx.wish]
  change Run K B _ [.im (.int a), .im (.int b)] _
  apply run_seq
  apply run_parRR
  · walk_at "ev"
  · walk_at "ev"
  · exact rfl
  · exact rfl
  · exact Nat.le_of_ble_eq_true rfl
  · exact Nat.le_of_ble_eq_true rfl
  rw [abs_if, abs_if]
  refine run_seq (run_while (fun m S' => ∃ x y : Int, S' = [.im (.int x), .im (.int y)] ∧ 0 ≤ x ∧ 0 ≤ y ∧ Int.gcd x y = Int.gcd a b ∧ m = y.toNat) _ ⟨_, _, rfl, by omega, by omega, by simp [Int.gcd], rfl⟩ ?_)
  rintro n S' ⟨x, y, rfl, hx, hy, hg, rfl⟩
  refine ⟨!decide (y = 0), by walk_at "ev", fun h => ?_, fun h => ?_⟩
  · have h : 0 < y := by
      have : ¬ y = 0 := by simpa using h
      omega
    apply run_parRR
    · walk_at "ev"
    · walk_at "ev"
      exact h
    · exact rfl
    · exact rfl
    · exact Nat.le_of_ble_eq_true rfl
    · exact Nat.le_of_ble_eq_true rfl
    · have h1 := Int.emod_nonneg x (Int.ne_of_gt h)
      have h2 := Int.emod_lt_of_pos x h
      exact ⟨_, by omega, _, _, rfl, hy, h1, by rw [gcd_step x y hx h]; exact hg, rfl⟩
  · have : y = 0 := by simpa using h
    subst this
    walk_at "ret"
    rw [← hg]
    simp only [Int.gcd_zero_right]
    congr 1
    omega
/-! is_series -/
def frSer : List D → D → Prop := fun ds d => ∃ s : Ser, ds = [sD s] ∧ (bd s = true ∧ (∀ x ∈ s, x.2 ≠ 0) ∧ upB s = true) ∧ d = .bool true
theorem up_all : ∀ (s : Ser), upB s = true → ∀ i, i + 1 < s.length → (s.getD i (0, 0)).1 < (s.getD (i + 1) (0, 0)).1
  | [], _, i, h => by simp at h
  | [_], _, i, h => by simp at h
  | x :: y :: t, h, i, hi => by
    simp only [upB, Bool.and_eq_true, decide_eq_true_eq] at h
    cases i with
    | zero => exact h.1
    | succ i => exact up_all (y :: t) h.2 i (by simpa using hi)
theorem ok_is_series {f : Addr} {fd : FuncData} (F : Fun K "is_series" "is_series" s_is_series f fd) (m : Bl mg) (d_is_whole : DefOk P w K mg base "is_whole" ["value"] 1 (spR K frWhole)) : FnOk P w K mg base CX0 2 f fd ["value"] (spR K frSer) := by
  refine def_R F sc_is_series frSer (fun ds d ⟨_, h, _⟩ => by rw [h]; rfl) fun cdv A outer s H E hr => ⟨_, (pss_cons (ps_if (pt_not (pt_val (pe_callB (isi_K K rfl) (by rfl) m.isinstance (by decide +kernel) (pa_cons (pv 0) (pa_cons (pe_bltn (v := .ty "tuple") (by rfl) m.tuple (by decide +kernel) rfl) pa_nil))))) (pss_one (ps_ret pe_bl)) pss_nil)
        (pss_cons (ps_for PassesOwn.never rfl (seq_K K rfl (pv 0)) (pg_name (i := 1) sc_is_series.nd rfl (Or.inl rfl)) (pss_one (ps_if (PW.pt (pw_or (pt_not (pt_val (pe_callB (isi_K K rfl) (by rfl) m.isinstance (by decide +kernel) (pa_cons (pv 1) (pa_cons (pe_bltn (v := .ty "tuple") (by rfl) m.tuple (by decide +kernel) rfl) pa_nil))))) (pw_or (pt_cmpR (op_neK K rfl hr.units) (pe_callB (len_K K rfl) (by rfl) m.len PySem.boot_len (pa_cons (pv 1) pa_nil)) pe_int (nomark _)) (pw_or (pt_not (pt_val (pe_callD d_is_whole (hr.mono (by decide)) (by rfl) (pa_cons (pe_ix (ix_K K rfl) (pv 1) pe_int (fun _ _ => rfl)) pa_nil)))) (pw_or (pt_not (pt_val (pe_callD d_is_whole (hr.mono (by decide)) (by rfl) (pa_cons (pe_ix (ix_K K rfl) (pv 1) pe_int (fun _ _ => rfl)) pa_nil)))) (pw_or1 (pt_cmpR (op_eqK K rfl hr.units) (pe_ix (ix_K K rfl) (pv 1) pe_int (fun _ _ => rfl)) pe_int (nomark _)))))))) (pss_one (ps_ret pe_bl)) pss_nil)))
        (pss_one (ps_ret (pe_callB (all_K K rfl rfl) (by rfl) m.all (by decide +kernel) (pa_cons (pe_lc (own := [("k", 2)]) rfl sc_is_series.nd (pi_range1 (by rfl) m.range (pa_cons (pe_op op_sub (pe_callB (len_K K rfl) (by rfl) m.len PySem.boot_len (pa_cons (pv 0) pa_nil)) pe_int) pa_nil)) (blkOk_by (N := ["value", "row", "k"]) (sc := defScope s_is_series) (by decide +kernel)) (fun _ _ _ _ _ => (pg_name (i := 2) sc_is_series.nd rfl (Or.inl rfl))) (fun _ _ _ _ _ => pts_nil) (fun _ _ _ _ _ => (pe_cmpR op_lt (pe_ix (ix_K K rfl) (pe_ix (ix_K K rfl) (pv 0) (pv 2) (fun _ _ => rfl)) pe_int (fun _ _ => rfl)) (pe_ix (ix_K K rfl) (pe_ix (ix_K K rfl) (pv 0) (pe_op (op_addK K rfl) (pv 2) pe_int) (fun _ _ => rfl)) pe_int (fun _ _ => rfl)) (nomark _)))) pa_nil)))))), fun ds d ⟨s, h1, ⟨hb, hz, hu⟩, h2⟩ B => ?_⟩
  subst h1 h2
  try dsimp only [cxOf, Cx.nox, Cx.wish]
  obtain ⟨g1, g2⟩ := bd_at hb
  change Run K B _ [.im (sD s), .no, .no] _
  refine run_seq (run_if (b := false) (KW.eb_not (b := true) (KW.eb_B (ev_isiR (ev_var rfl) isi_tup))) (fun z => by cases z) fun _ => run_nx ?_)
  refine run_seq (run_for s pD (fun x => [(1, pD x)]) (its_seqT (ev_var rfl) (noLs_pD s)) (fun _ _ => tg_name) (fun _ S' => ∃ e1, S' = [.im (sD s), e1, .no]) ⟨_, rfl⟩ ?_ ?_ ?_)
  · rintro i k S' _ ⟨_, rfl⟩ p hp
    rw [List.mem_singleton.mp hp]
    exact Nat.le_of_ble_eq_true rfl
  · rintro i x S' hx ⟨e1, rfl⟩
    have hx0 := hz x (List.mem_of_getElem? hx)
    have i0 : atI [PyData.int x.1, .int x.2] 0 = some (.int x.1) := atI_nat (j := 0) rfl
    have i1 : atI [PyData.int x.1, .int x.2] 1 = some (.int x.2) := atI_nat (j := 1) rfl
    change Run K B _ [.im (sD s), .im (pD x), .no] _
    refine run_if (b := false) (KW.eb_or (b := false) (c := false) (KW.eb_not (b := true) (KW.eb_B (ev_isiR (ev_var rfl) isi_tup))) fun _ =>
      KW.eb_or (b := false) (c := false) (EvB.to (b := !decide (((([PyData.int x.1, .int x.2] : List D).length : Nat) : Int) = 2)) (KW.eb_test (ev_opR (ev_cbR (eas_cons (ev_var rfl) eas_nil) rc_lenT) ev_int rv_neI)) rfl) fun _ =>
      KW.eb_or (b := false) (c := false) (KW.eb_not (b := true) (KW.eb_B (ev_call (eas_cons (ev_opR (ev_var rfl) ev_int (rv_ixT i0)) eas_nil) ⟨_, rfl, rfl⟩))) fun _ =>
      KW.eb_or (b := false) (c := false) (KW.eb_not (b := true) (KW.eb_B (ev_call (eas_cons (ev_opR (ev_var rfl) ev_int (rv_ixT i1)) eas_nil) ⟨_, rfl, rfl⟩))) fun _ =>
      EvB.to (b := decide (x.2 = 0)) (KW.eb_test (ev_opR (ev_opR (ev_var rfl) ev_int (rv_ixT i1)) ev_int rv_eqI)) (decide_eq_false hx0)) (fun z => by cases z) fun _ => run_nx ⟨_, rfl⟩
  · rintro S' ⟨e1, rfl⟩
    have hit : ∀ i : Int, 0 ≤ i → i < s.length → atI (s.map pD) i = some (pD (s.getD i.toNat (0, 0))) := fun i h0 h1 => atI_map (atI_int (0, 0) h0 h1)
    refine ret_R (EvR.to (d := .bool (((rgI 0 ((s.length : Int) - 1).toNat).map fun k => decide ((s.getD k.toNat (0, 0)).1 < (s.getD (k + 1).toNat (0, 0)).1)).all id)) (ev_cbR (eas_cons (EvF.r (EvF.to (ef_lc (rgI 0 ((s.length : Int) - 1).toNat) .int (fun k => [(2, .int k)]) (fun _ => true) (fun k => .bool (decide ((s.getD k.toNat (0, 0)).1 < (s.getD (k + 1).toNat (0, 0)).1))) (it_rng1 (n := (s.length : Int) - 1) (eas_cons (ev_opR (d := .int (s.length : Int)) (EvR.to (ev_cbR (eas_cons (ev_var rfl) eas_nil) rc_lenT) (by rw [List.length_map])) ev_int rv_sub) eas_nil) (by omega)) (fun _ _ => tg_name) (fun _ _ p hp => by
        rw [List.mem_singleton.mp hp]; simp) (fun a ha => fun σ H E Q q => q H (Evl.Ex.refl H)) (fun k hk _ => em_R rfl ?_) (by rw [rgI_length]; omega)) (by rw [filt]; exact (List.map_map (f := fun k : Int => decide ((s.getD k.toNat (0, 0)).1 < (s.getD (k + 1).toNat (0, 0)).1)) (g := PyData.bool)).symm))) eas_nil) rc_all) ?_)
    · have := mem_rgI.mp hk
      exact ev_opR (ev_opR (ev_opR (ev_var rfl) (ev_var rfl) (rv_ixT (hit k (by omega) (by omega)))) ev_int (rv_ixT (atI_nat (j := 0) rfl))) (ev_opR (ev_opR (ev_var rfl) (ev_opR (ev_var rfl) ev_int rv_add) (rv_ixT (hit (k + 1) (by omega) (by omega)))) ev_int (rv_ixT (atI_nat (j := 0) rfl))) rv_lt
    · congr 1
      rw [List.all_eq_true]
      intro b hb
      obtain ⟨k, hk, rfl⟩ := List.mem_map.mp hb
      have := mem_rgI.mp hk
      have h := up_all s hu k.toNat (by omega)
      rw [show (k + 1).toNat = k.toNat + 1 by omega]
      simpa using h
end
end K71

set_option Elab.async false
set_option linter.all false
set_option maxRecDepth 100000
set_option maxHeartbeats 8000000
namespace K71
open PySem PySem.Spec PyProof.Rows L2 KW SE
local macro_rules | `(tactic| walk_at "ev") => `(tactic| repeat' (first
  | with_reducible exact ev_int | with_reducible exact ev_str | with_reducible exact ev_bool | with_reducible exact ev_none
  | ((with_reducible apply ev_var); exact rfl)
  | with_reducible exact rv_add | with_reducible exact rv_sub | with_reducible exact rv_lt | with_reducible exact rv_le | with_reducible exact rv_gt | with_reducible exact rv_ge
  | with_reducible exact rv_eqI | with_reducible exact rv_neI | with_reducible exact rv_eqB | with_reducible exact rv_neB | with_reducible exact rv_eqT | with_reducible exact rv_neT | with_reducible exact rv_eqLI | with_reducible exact rv_neLI
  | with_reducible exact rv_isB | with_reducible exact rv_notB | with_reducible exact rv_inLI | with_reducible exact rv_inTI | with_reducible exact rv_niLI | with_reducible exact rv_niTI
  | ((with_reducible apply rv_eqS) <;> decide +kernel) | ((with_reducible apply rv_neS) <;> decide +kernel)
  | with_reducible apply rv_mul | with_reducible apply rv_mod | with_reducible apply rv_fdiv | with_reducible apply rv_pow | with_reducible apply rv_ixTI | with_reducible apply rv_ixLI | with_reducible apply rv_ixT | with_reducible apply rv_ixL | with_reducible apply rv_addT
  | with_reducible exact ru_neg
  | with_reducible exact rc_abs | with_reducible exact rc_max | with_reducible exact rc_min | with_reducible exact rc_minT | with_reducible exact rc_intI | with_reducible exact rc_intB | with_reducible exact rc_lenTI | with_reducible exact rc_lenLI | with_reducible exact rc_lenT | with_reducible exact rc_lenL | with_reducible exact rc_tupL | with_reducible exact rc_tupT | with_reducible exact rc_sum | with_reducible exact rc_all
  | with_reducible apply ev_opR
  | with_reducible apply ev_isiR
  | with_reducible exact isi_int | with_reducible exact isi_int_bool | with_reducible exact isi_tup | with_reducible exact isi_str
  | with_reducible apply ev_cbR
  | with_reducible apply KW.ev_un
  | with_reducible apply ev_tupR
  | ((with_reducible show okT _ = true); exact rfl)
  | with_reducible apply ev_revD
  | with_reducible exact RevD.lst _ | with_reducible exact RevD.tup _
  | with_reducible apply ev_slD
  | with_reducible exact SlD.lst _ | with_reducible exact SlD.tup _
  | with_reducible apply ef_lstR
  | with_reducible apply KW.ef_call
  | with_reducible apply KW.ef_addX_L
  | with_reducible apply KW.ef_listRg1 | with_reducible apply KW.ev_tupRg1 | with_reducible apply KW.ev_tupRg2
  | with_reducible apply ep_some
  | with_reducible exact ep_none
  | with_reducible apply KW.eb_test
  | with_reducible apply KW.eb_B
  | with_reducible apply KW.eb_not
  | with_reducible apply KW.ev_not
  | with_reducible exact eas_nil
  | with_reducible apply eas_cons
  | with_reducible apply KW.eb_and
  | with_reducible apply KW.eb_or
  | with_reducible apply KW.ev_and
  | with_reducible apply KW.ev_or
  | with_reducible apply KW.ev_chain
  | with_reducible apply KW.ev_call | with_reducible apply KW.ev_callF
  | walk_at "fr"
  | with_reducible refine fun (_ : _ = true) => ?_
  | with_reducible refine fun (_ : _ = false) => ?_))
local macro_rules | `(tactic| walk_at "sd") => `(tactic| first
  | assumption | omega | exact rfl | exact noL_tI _ | exact noLs_ints _ | exact Nat.le_of_ble_eq_true rfl
  | (refine Or.inl ⟨?_, ?_⟩ <;> omega) | (refine Or.inr ⟨?_, ?_⟩ <;> omega) | (refine And.intro ?_ ?_ <;> omega) | exact ⟨by omega, by omega, by decide⟩
  | exact ⟨_, _, rfl, rfl⟩)
local macro_rules | `(tactic| walk_at "set") => `(tactic| (apply run_seq; apply run_setR; (focus walk_at "ev"); all_goals (try walk_at "sd"); try dsimp only [List.set]))
local macro_rules | `(tactic| walk_at "setF") => `(tactic| (apply run_seq; apply run_setF; (focus walk_at "ev"); all_goals (try walk_at "sd"); try dsimp only [List.set]))
local macro_rules | `(tactic| walk_at "if") => `(tactic| (apply run_seq; apply run_if; (focus walk_at "ev"); all_goals (try walk_at "sd")))
local macro_rules | `(tactic| walk_at "if1") => `(tactic| (apply run_if; (focus walk_at "ev"); all_goals (try walk_at "sd")))
local macro_rules | `(tactic| walk_at "ret") => `(tactic| (apply ret_R; apply EvR.to; (focus walk_at "ev"); all_goals (try walk_at "sd")))
local macro_rules | `(tactic| walk_at "app") => `(tactic| (apply run_app; exact rfl; (focus walk_at "ev"); all_goals (try walk_at "sd"); try dsimp only [List.set]))
local macro_rules | `(tactic| walk_at "fr") => `(tactic| first | exact ⟨_, _, rfl, by omega, rfl⟩ | exact ⟨_, rfl, rfl⟩ | exact ⟨_, _, rfl, rfl⟩ | exact ⟨_, _, _, rfl, rfl⟩)

section
variable {P : Program} {w : World} {K : PySem.W.Frag} {mg : Str → Option Value} {base : Heap}
theorem chk_at {p q : Int} (hp : 1 ≤ p ∧ p ≤ 9) (hq : 1 ≤ q ∧ q ≤ 10) (hg : ((Int.gcd p q : Nat) : Int) = 1) : chk p q = true := by
  have h1 := c1
  have h4 := c4
  simp only [Bool.and_eq_true] at h1 h4
  have : chkP p = true := by
    have : p = 1 ∨ p = 2 ∨ p = 3 ∨ p = 4 ∨ p = 5 ∨ p = 6 ∨ p = 7 ∨ p = 8 ∨ p = 9 := by omega
    rcases this with rfl | rfl | rfl | rfl | rfl | rfl | rfl | rfl | rfl
    · exact h1.1.1
    · exact h1.1.2
    · exact h1.2
    · exact h4.1
    · exact h4.2
    · exact c6
    · exact c7
    · exact c8
    · exact c9
  have := List.all_eq_true.mp this q (mem_rgI.mpr (by omega))
  simp only [Bool.or_eq_true, Bool.not_eq_true', decide_eq_false_iff_not] at this
  rcases this with h | h
  · exact absurd hg h
  · exact h
def toL (x : Int × Int) : List Int := [x.1, x.2]
theorem sD_toL (s : Ser) : sD s = .tuple ((s.map toL).map tI) := by rw [List.map_map]; rfl
theorem rv_neSer {s : Ser} : RvR K (rNeD K) (sD s) (sD s) (.bool false) := by
  have h : RvR K (rNeD K) (sD s) (sD s) (.bool (!PyData.eqv (sD s) (sD s))) := rv_neG rfl rfl (by rw [sD_toL]; exact shaped_tT _) (by rw [sD_toL]; exact shaped_tT _)
  rw [sD_toL, eqv_tT] at h
  rw [sD_toL]
  simpa using h
theorem rv_eqSer {s : Ser} : RvR K (rEqD K) (sD s) (sD s) (.bool true) := by
  have h : RvR K (rEqD K) (sD s) (sD s) (.bool (PyData.eqv (sD s) (sD s))) := rv_eqG rfl rfl (by rw [sD_toL]; exact shaped_tT _) (by rw [sD_toL]; exact shaped_tT _)
  rw [sD_toL, eqv_tT] at h
  rw [sD_toL]
  simpa using h
def spLaw (K : PySem.W.Frag) : Sp := fun vs H Q _ => ∃ ns : List Int, RpAll K H vs [lI ns] ∧ ns.length ≤ 1000 ∧ ∀ H', Q (.bl true) H'
theorem ok_law {f : Addr} {fd : FuncData} (F : Fun K "law" "law" s_law f fd) (m : Bl mg)
    (d__law_pool : DefOk P w K mg base "_law_pool" ["script"] 2 (spPool K)) (d__law_pick : DefOk P w K mg base "_law_pick" ["pool", "amount"] 1 (spX K okPick frPick 1)) (d__law_gcd : DefOk P w K mg base "_law_gcd" ["a", "b"] 1 (spR K frGcd))
    (d_torus_alexander : DefOk P w K mg base "torus_alexander" ["p", "q"] 5 (spR K frTor)) (d_is_series : DefOk P w K mg base "is_series" ["value"] 2 (spR K frSer)) (d_width : DefOk P w K mg base "width" ["series"] 1 (spR K frWidth)) (d_surface_of_torus : DefOk P w K mg base "surface_of_torus" ["p", "q"] 1 (spR K frSurf))
    (d_is_even_both_ways : DefOk P w K mg base "is_even_both_ways" ["series"] 2 (spR K frEvenB)) (d_value_at : DefOk P w K mg base "value_at" ["series", "number"] 1 (spR K frVal)) (d_multiply : DefOk P w K mg base "multiply" ["one", "two"] 2 (spR K frMul)) :
    FnOk P w K mg base CX0 6 f fd ["script"] (spLaw K) := by
  refine F.ok sc_law (fun vs H Q E h => ?_) (fun cdv A outer s H vs Q E hr h => ?_)
  · obtain ⟨ns, r, _⟩ := h
    rw [Paired.length r]
    rfl
  have hu : (A.deeper (envOfC "law" (defScope s_law) s.heap.objs.size f cdv)).units + 1 < cLine := by
    have := hr.un
    omega
  refine ⟨_, (pss_cons (ps_set (i := 1) sc_law.nd rfl (.inl rfl) (pe_callD d__law_pool (hr.mono (by decide)) (by rfl) (pa_cons (pv 0) pa_nil)))
        (pss_cons (ps_asg (KW.pe_tup (pa_cons (pe_op (op_addK K rfl) pe_int (pe_callD d__law_pick (hr.mono (by decide)) (by rfl) (pa_cons (pv 1) (pa_cons pe_int pa_nil)))) (pa_cons (pe_op (op_addK K rfl) pe_int (pe_callD d__law_pick (hr.mono (by decide)) (by rfl) (pa_cons (pv 1) (pa_cons pe_int pa_nil)))) pa_nil))) (tup_K K rfl rfl (pgs_cons (pg_name (i := 2) sc_law.nd rfl (Or.inr rfl)) (pgs_cons (pg_name (i := 3) sc_law.nd rfl (Or.inr rfl)) pgs_nil))))
        (pss_cons (ps_if (pt_cmpR (op_neK K rfl hr.units) (pe_callD d__law_gcd (hr.mono (by decide)) (by rfl) (pa_cons (pv 2) (pa_cons (pv 3) pa_nil))) pe_int (nomark _)) (pss_one (ps_set (i := 3) sc_law.nd rfl (.inr rfl) (pe_op (op_addK K rfl) (pv 2) pe_int))) pss_nil)
        (pss_cons (ps_set (i := 4) sc_law.nd rfl (.inl rfl) (pe_callD d_torus_alexander (hr.mono (by decide)) (by rfl) (pa_cons (pv 2) (pa_cons (pv 3) pa_nil))))
        (pss_cons (ps_set (i := 5) sc_law.nd rfl (.inl rfl) (pe_op op_mul (pe_op op_sub (pv 2) pe_int) (pe_op op_sub (pv 3) pe_int)))
        (pss_cons (ps_if (PW.pt (pw_or (pt_cmpR op_notBl (pe_callD d_is_series (hr.mono (by decide)) (by rfl) (pa_cons (pv 4) pa_nil)) pe_bl (nomark _)) (pw_or (pt_cmpR (op_neK K rfl hr.units) (pe_callD d_torus_alexander (hr.mono (by decide)) (by rfl) (pa_cons (pv 3) (pa_cons (pv 2) pa_nil))) (pv 4) (nomark _)) (pw_or (pt_cmpR (op_neK K rfl hr.units) (pe_callD d_width (hr.mono (by decide)) (by rfl) (pa_cons (pv 4) pa_nil)) (pv 5) (nomark _)) (pw_or (pt_cmpR (op_neK K rfl hr.units) (pe_callD d_surface_of_torus (hr.mono (by decide)) (by rfl) (pa_cons (pv 2) (pa_cons (pv 3) pa_nil))) (pv 5) (nomark _)) (pw_or1 (pt_cmpR op_notBl (pe_callD d_is_even_both_ways (hr.mono (by decide)) (by rfl) (pa_cons (pv 4) pa_nil)) pe_bl (nomark _)))))))) (pss_one (ps_ret pe_bl)) pss_nil)
        (pss_cons (ps_set (i := 6) sc_law.nd rfl (.inl rfl) pe_int)
        (pss_cons (ps_if (pt_cmpR (op_eqK K rfl hr.units) (pe_op op_mod (pv 2) pe_int) pe_int (nomark _)) (pss_one (ps_set (i := 6) sc_law.nd rfl (.inl rfl) (pv 3))) pss_nil)
        (pss_cons (ps_if (pt_cmpR (op_eqK K rfl hr.units) (pe_op op_mod (pv 3) pe_int) pe_int (nomark _)) (pss_one (ps_set (i := 6) sc_law.nd rfl (.inl rfl) (pv 2))) pss_nil)
        (pss_cons (ps_if (PW.pt (pw_or (pt_cmpR (op_neK K rfl hr.units) (pe_callD d_value_at (hr.mono (by decide)) (by rfl) (pa_cons (pv 4) (pa_cons pe_int pa_nil))) pe_int (nomark _)) (pw_or1 (pt_cmpR (op_neK K rfl hr.units) (pe_callB call_abs (by rfl) m.abs (by decide +kernel) (pa_cons (pe_callD d_value_at (hr.mono (by decide)) (by rfl) (pa_cons (pv 4) (pa_cons (pe_un un_neg pe_int) pa_nil))) pa_nil)) (pv 6) (nomark _))))) (pss_one (ps_ret pe_bl)) pss_nil)
        (pss_cons (ps_set (i := 7) sc_law.nd rfl (.inl rfl) (pe_callTy (dictT_K K rfl rfl) (by rfl) m.dict (by decide +kernel) (pa_cons (pv 4) pa_nil)))
        (pss_cons (ps_set (i := 8) sc_law.nd rfl (.inl rfl) pe_int)
        (pss_cons (ps_for PassesOwn.never rfl (pi_range1 (by rfl) m.range (pa_cons (pe_op (op_addK K rfl) (pv 5) pe_int) pa_nil)) (pg_name (i := 9) sc_law.nd rfl (Or.inr rfl)) (pss_cons (ps_set (i := 8) sc_law.nd rfl (.inl rfl) (pe_op (op_addK K rfl) (pv 8) (pe_dget2 hu (pv 7) (pv 9) pe_int ⟨rfl, rfl, rfl, rfl⟩)))
        (pss_cons (ps_set (i := 10) sc_law.nd rfl (.inl rfl) (pe_cmpR op_gt (pe_callB (len_K K rfl) (by rfl) m.len PySem.boot_len (pa_cons (pe_lc (own := [("j", 13)]) rfl sc_law.nd (pi_range1 (by rfl) m.range (pa_cons (pe_op (op_addK K rfl) (pe_op op_fdiv (pv 9) (pv 2)) pe_int) pa_nil)) (blkOk_by (N := ["script", "pool", "p", "q", "found", "wide", "due", "numbers", "total", "k", "made", "low", "high", "j"]) (sc := defScope s_law) (by decide +kernel)) (fun _ _ _ _ _ => (pg_name (i := 13) sc_law.nd rfl (Or.inl rfl))) (fun _ _ _ _ _ => (pts_one (pt_cmpR (op_eqK K rfl hr.units) (pe_op op_mod (pe_op op_sub (pv 9) (pe_op op_mul (pv 13) (pv 2))) (pv 3)) pe_int (nomark _)))) (fun _ _ _ _ _ => (pv 13))) pa_nil)) pe_int (nomark _)))
        (pss_one (ps_if (pt_cmpR (op_neK K rfl hr.units) (pv 8) (pe_callTy call_int1 (by rfl) m.int (by decide +kernel) (pa_cons (pv 10) pa_nil)) (nomark _)) (pss_one (ps_ret pe_bl)) pss_nil)))))
        (pss_cons (ps_for PassesOwn.never rfl (pi_range1 (by rfl) m.range (pa_cons (pe_callB (len_K K rfl) (by rfl) m.len PySem.boot_len (pa_cons (pv 4) pa_nil)) pa_nil)) (pg_name (i := 9) sc_law.nd rfl (Or.inr rfl)) (pss_one (ps_if (pt_cmpR (op_neK K rfl hr.units) (pe_ix (ix_K K rfl) (pe_ix (ix_K K rfl) (pv 4) (pv 9) (fun _ _ => rfl)) pe_int (fun _ _ => rfl)) (pe_op op_sub pe_int (pe_op op_mul pe_int (pe_op op_mod (pv 9) pe_int))) (nomark _)) (pss_one (ps_ret pe_bl)) pss_nil)))
        (pss_cons (ps_par (i := 11) (j := 12) rfl sc_law.nd rfl rfl (by decide) rfl rfl (pa_cons (pe_callTy (tupOf_K K rfl) (by rfl) m.tuple (by decide +kernel) (pa_cons (pe_lc (own := [("k", 9)]) rfl sc_law.nd (pi_range1 (by rfl) m.range (pa_cons (pv 2) pa_nil)) (blkOk_by (N := ["script", "pool", "p", "q", "found", "wide", "due", "numbers", "total", "k", "made", "low", "high", "j"]) (sc := defScope s_law) (by decide +kernel)) (fun _ _ _ _ _ => (pg_name (i := 9) sc_law.nd rfl (Or.inl rfl))) (fun _ _ _ _ _ => pts_nil) (fun _ _ _ _ _ => (KW.pe_tup (pa_cons (pv 9) (pa_cons pe_int pa_nil))))) pa_nil)) (pa_cons (pe_callTy (tupOf_K K rfl) (by rfl) m.tuple (by decide +kernel) (pa_cons (pe_lc (own := [("k", 9)]) rfl sc_law.nd (pi_range1 (by rfl) m.range (pa_cons (pv 3) pa_nil)) (blkOk_by (N := ["script", "pool", "p", "q", "found", "wide", "due", "numbers", "total", "k", "made", "low", "high", "j"]) (sc := defScope s_law) (by decide +kernel)) (fun _ _ _ _ _ => (pg_name (i := 9) sc_law.nd rfl (Or.inl rfl))) (fun _ _ _ _ _ => pts_nil) (fun _ _ _ _ _ => (KW.pe_tup (pa_cons (pv 9) (pa_cons pe_int pa_nil))))) pa_nil)) pa_nil)) (by rfl))
        (pss_one (ps_ret (pe_cmpR (op_eqK K rfl hr.units) (pe_callD d_multiply (hr.mono (by decide)) (by rfl) (pa_cons (pe_callD d_multiply (hr.mono (by decide)) (by rfl) (pa_cons (pv 4) (pa_cons (pv 11) pa_nil))) (pa_cons (pv 12) pa_nil))) (pe_callTy (tupOf_K K rfl) (by rfl) m.tuple (by decide +kernel) (pa_cons (pe_lc (own := [("k", 9)]) rfl sc_law.nd (pi_range1 (by rfl) m.range (pa_cons (pe_op op_mul (pv 2) (pv 3)) pa_nil)) (blkOk_by (N := ["script", "pool", "p", "q", "found", "wide", "due", "numbers", "total", "k", "made", "low", "high", "j"]) (sc := defScope s_law) (by decide +kernel)) (fun _ _ _ _ _ => (pg_name (i := 9) sc_law.nd rfl (Or.inl rfl))) (fun _ _ _ _ _ => pts_nil) (fun _ _ _ _ _ => (KW.pe_tup (pa_cons (pv 9) (pa_cons pe_int pa_nil))))) pa_nil)) (nomark _))))))))))))))))))), ?_⟩
  obtain ⟨ns, r, hl, q⟩ := h
  try dsimp only [cxOf, Cx.nox, Cx.wish]
  suffices hrun : Run K H _ [.im (lI ns), .no, .no, .no, .no, .no, .no, .no, .no, .no, .no, .no, .no, .no] ⟨fun _ => False, fun v _ => v = .bl true, fun _ => False, fun _ => False⟩ from
    hrun H (Evl.Ex.refl H) _ _ H (start_sb (N := ["script", "pool", "p", "q", "found", "wide", "due", "numbers", "total", "k", "made", "low", "high", "j"]) r) (fun _ _ _ _ z => z.elim) (fun v H' z => z ▸ q H') (fun _ _ _ _ z => z.elim) (fun _ _ _ _ z => z.elim)
  clear q
  refine run_seq (run_setPool (by walk_at "ev") hl (Nat.le_of_ble_eq_true rfl) ?_)
  intro pl pc
  dsimp only [List.set]
  refine run_seq (run_tup2X (xv_add (a := 1) (xv_call (ok := okPick) (Fr := frPick) (cost := 1) (ds := [.int 9]) (l := pl) (c := pc) (m := 0) rfl (by walk_at "ev") ⟨9, rfl, by decide⟩ (by omega)) (fun d ⟨n, i, _, h, _⟩ => ⟨i, h⟩)) (xv_add (a := 1) (xv_call (ok := okPick) (Fr := frPick) (cost := 1) (ds := [.int 9]) (l := pl) (c := pc) (m := 1) rfl (by walk_at "ev") ⟨9, rfl, by decide⟩ (by omega)) (fun d ⟨n, i, _, h, _⟩ => ⟨i, h⟩)) (Nat.le_of_ble_eq_true rfl) (Nat.le_of_ble_eq_true rfl) ?_)
  rintro d e ⟨i, ⟨n', i', h1, h2, h3, h4⟩, rfl⟩ ⟨j, ⟨n2, j', h5, h6, h7, h8⟩, rfl⟩
  cases h1
  cases h2
  cases h5
  cases h6
  obtain ⟨p, hpi⟩ : ∃ p, p = 1 + i := ⟨_, rfl⟩
  obtain ⟨q0, hqi⟩ : ∃ q0, q0 = 1 + j := ⟨_, rfl⟩
  rw [← hpi, ← hqi]
  have hp : 1 ≤ p ∧ p ≤ 9 := by omega
  have hq0 : 1 ≤ q0 ∧ q0 ≤ 9 := by omega
  clear hpi hqi h3 h4 h7 h8
  dsimp only [List.set]
  change Run K H _ [.im (lI ns), .pl pl pc 2, .im (.int p), .im (.int q0), .no, .no, .no, .no, .no, .no, .no, .no, .no, .no] _
  obtain ⟨q, hq⟩ : ∃ q, q = if ((Int.gcd p q0 : Nat) : Int) = 1 then q0 else p + 1 := ⟨_, rfl⟩
  refine run_mid (T := [.im (lI ns), .pl pl pc 2, .im (.int p), .im (.int q), .no, .no, .no, .no, .no, .no, .no, .no, .no, .no]) ?_ ?_
  · refine run_if (b := !decide (((Int.gcd p q0 : Nat) : Int) = 1)) (KW.eb_test (ev_opR (ev_call (by walk_at "ev") ⟨p, q0, rfl, rfl⟩) ev_int rv_neI)) (fun h => ?_) fun h => run_nx ?_
    · have h : ¬ ((Int.gcd p q0 : Nat) : Int) = 1 := by simpa using h
      refine run_setR (d := .int (p + 1)) (by walk_at "ev") rfl (Nat.le_of_ble_eq_true rfl) ?_
      dsimp only [List.set]
      rw [hq, if_neg h]
    · have h : ((Int.gcd p q0 : Nat) : Int) = 1 := by simpa using h
      rw [hq, if_pos h]
  have hqr : (1 ≤ q ∧ q ≤ 10) ∧ ((Int.gcd p q : Nat) : Int) = 1 := by
    rw [hq]
    split
    · rename_i h
      exact ⟨by omega, h⟩
    · refine ⟨by omega, ?_⟩
      have : p = 1 ∨ p = 2 ∨ p = 3 ∨ p = 4 ∨ p = 5 ∨ p = 6 ∨ p = 7 ∨ p = 8 ∨ p = 9 := by omega
      rcases this with rfl | rfl | rfl | rfl | rfl | rfl | rfl | rfl | rfl <;> decide +kernel
  clear hq
  have hc := chk_at hp hqr.1 hqr.2
  obtain ⟨hq, _⟩ := hqr
  unfold chk at hc
  split at hc
  · cases hc
  rename_i s hs
  unfold chkS at hc
  simp only [Bool.and_eq_true, decide_eq_true_eq, Bool.not_eq_true', List.isEmpty_eq_false_iff, List.all_eq_true, decide_eq_false_iff_not] at hc
  obtain ⟨⟨⟨⟨⟨⟨⟨⟨⟨⟨⟨⟨⟨⟨b1, b2⟩, b3⟩, b4⟩, b5⟩, b6⟩, b7⟩, b8⟩, b9⟩, b10⟩, b11⟩, b12⟩, b13⟩, b14⟩, b15⟩ := hc
  have hwide : 0 ≤ (p - 1) * (q - 1) ∧ (p - 1) * (q - 1) ≤ 72 := ⟨Int.mul_nonneg (by omega) (by omega), by
    have : (p - 1) * (q - 1) ≤ 8 * 9 := Int.mul_le_mul (by omega) (by omega) (by omega) (by decide)
    omega⟩
  refine run_seq (run_setR (d := sD s) (ev_call (by walk_at "ev") ⟨p, q, s, rfl, ⟨by omega, by omega, by omega, by omega, hs⟩, rfl⟩) (noL_sD _) (Nat.le_of_ble_eq_true rfl) ?_)
  dsimp only [List.set]
  obtain ⟨wide, hwd⟩ : ∃ wide, wide = (p - 1) * (q - 1) := ⟨_, rfl⟩
  refine run_seq (run_setR (d := .int wide) (EvR.to (ev_opR (ev_opR (ev_var rfl) ev_int rv_sub) (ev_opR (ev_var rfl) ev_int rv_sub) (rv_mul (.inl ⟨by omega, by omega⟩))) (by rw [hwd])) rfl (Nat.le_of_ble_eq_true rfl) ?_)
  dsimp only [List.set]
  rw [← hwd] at b4 b10 hwide
  obtain ⟨g1, g2⟩ := bd_at b1
  refine run_seq (run_if (b := false) (KW.eb_or (b := false) (c := false) (EvB.to (b := !decide (true = true)) (KW.eb_test (ev_opR (ev_call (by walk_at "ev") ⟨s, rfl, ⟨b1, b6, b7⟩, rfl⟩) ev_bool rv_notB)) rfl) fun _ =>
    KW.eb_or (b := false) (c := false) (KW.eb_test (ev_opR (ev_call (d := sD s) (by walk_at "ev") ⟨q, p, s, rfl, ⟨by omega, by omega, by omega, by omega, b3⟩, rfl⟩) (ev_var rfl) rv_neSer)) fun _ =>
    KW.eb_or (b := false) (c := false) (EvB.to (b := !decide (widthF s = wide)) (KW.eb_test (ev_opR (ev_call (by walk_at "ev") ⟨s, rfl, rfl⟩) (ev_var rfl) rv_neI)) (by rw [decide_eq_true b4]; rfl)) fun _ =>
    KW.eb_or (b := false) (c := false) (EvB.to (b := !decide ((p - 1) * (q - 1) = wide)) (KW.eb_test (ev_opR (ev_call (by walk_at "ev") ⟨p, q, rfl, by omega, rfl⟩) (ev_var rfl) rv_neI)) (by rw [decide_eq_true hwd.symm]; rfl)) fun _ =>
    EvB.to (b := !decide (evenB s = true)) (KW.eb_test (ev_opR (ev_call (by walk_at "ev") ⟨s, rfl, ⟨b1, b2⟩, rfl⟩) ev_bool rv_notB)) (by rw [b5]; rfl)) (fun z => by cases z) fun _ => run_nx ?_)
  refine run_seq (run_setR (d := .int 1) ev_int rfl (Nat.le_of_ble_eq_true rfl) ?_)
  dsimp only [List.set]
  refine run_mid (T := [.im (lI ns), .pl pl pc 2, .im (.int p), .im (.int q), .im (sD s), .im (.int wide), .im (.int (if p % 2 = 0 then q else 1)), .no, .no, .no, .no, .no, .no, .no]) ?_ ?_
  · refine run_if (b := decide (p % 2 = 0)) (KW.eb_test (ev_opR (ev_opR (ev_var rfl) ev_int (rv_mod (by decide))) ev_int rv_eqI)) (fun h => ?_) fun h => run_nx ?_
    · have h := of_decide_eq_true h
      refine run_setR (d := .int q) (ev_var rfl) rfl (Nat.le_of_ble_eq_true rfl) ?_
      dsimp only [List.set]
      rw [if_pos h]
    · rw [if_neg (of_decide_eq_false h)]
  refine run_mid (T := [.im (lI ns), .pl pl pc 2, .im (.int p), .im (.int q), .im (sD s), .im (.int wide), .im (.int (dueI p q)), .no, .no, .no, .no, .no, .no, .no]) ?_ ?_
  · refine run_if (b := decide (q % 2 = 0)) (KW.eb_test (ev_opR (ev_opR (ev_var rfl) ev_int (rv_mod (by decide))) ev_int rv_eqI)) (fun h => ?_) fun h => run_nx ?_
    · have h := of_decide_eq_true h
      refine run_setR (d := .int p) (ev_var rfl) rfl (Nat.le_of_ble_eq_true rfl) ?_
      dsimp only [List.set]
      rw [dueI, if_pos h]
    · rw [dueI, if_neg (of_decide_eq_false h)]
  refine run_seq (run_if (b := false) (KW.eb_or (b := false) (c := false) (EvB.to (b := !decide (valF s 1 = 1)) (KW.eb_test (ev_opR (ev_call (by walk_at "ev") ⟨s, 1, rfl, b1, rfl⟩) ev_int rv_neI)) (by rw [decide_eq_true b8]; rfl)) fun _ =>
    EvB.to (b := !decide ((if valF s (-1) < 0 then -valF s (-1) else valF s (-1)) = dueI p q)) (KW.eb_test (ev_opR (ev_cbR (eas_cons (ev_call (ds := [sD s, .int (-1)]) (by walk_at "ev") ⟨s, -1, rfl, b1, rfl⟩) eas_nil) rc_abs) (ev_var rfl) rv_neI)) (by rw [decide_eq_true b9]; rfl)) (fun z => by cases z) fun _ => run_nx ?_)
  refine run_seq (run_setD (ed_dictT (ps := s) (ev_var rfl) (by omega)) (Nat.le_of_ble_eq_true rfl) ?_)
  dsimp only [List.set]
  refine run_seq (run_setR (d := .int 0) ev_int rfl (Nat.le_of_ble_eq_true rfl) ?_)
  dsimp only [List.set]
  refine run_seq (run_for (rgI 0 (wide + 1).toNat) .int (fun k => [(9, .int k)]) (its_rng1 (n := wide + 1) (by walk_at "ev") (by omega)) (fun _ _ => tg_name)
    (fun i S' => ∃ (t : Int) (e9 e10 : Sl), S' = [.im (lI ns), .pl pl pc 2, .im (.int p), .im (.int q), .im (sD s), .im (.int wide), .im (.int (dueI p q)), .dk (dictF s), .im (.int t), e9, e10, .no, .no, .no] ∧ chkTot s p q ((rgI 0 (wide + 1).toNat).drop i) t = true)
    ⟨_, _, _, rfl, by rw [List.drop_zero]; exact b10⟩ ?_ ?_ ?_)
  · rintro i k S' _ ⟨_, _, _, rfl, _⟩ z hz
    rw [List.mem_singleton.mp hz]
    exact Nat.le_of_ble_eq_true rfl
  · rintro i k S' hk ⟨t, e9, e10, rfl, ht⟩
    obtain ⟨hki, hke⟩ := List.getElem?_eq_some_iff.mp hk
    rw [List.drop_eq_getElem_cons hki, hke] at ht
    simp only [chkTot, Bool.and_eq_true, decide_eq_true_eq] at ht
    obtain ⟨ht1, ht2⟩ := ht
    have hkr := mem_rgI.mp (List.mem_of_getElem? hk)
    change Run K H _ [.im (lI ns), .pl pl pc 2, .im (.int p), .im (.int q), .im (sD s), .im (.int wide), .im (.int (dueI p q)), .dk (dictF s), .im (.int t), .im (.int k), e10, .no, .no, .no] _
    refine run_seq (run_setR (d := .int (t + (lookI (dictF s) k).getD 0)) (ev_opR (ev_var rfl) (ev_dget2 (ev_var rfl) (ev_var rfl) ev_int) rv_add) rfl (Nat.le_of_ble_eq_true rfl) ?_)
    dsimp only [List.set]
    have hkp : 0 ≤ k / p ∧ k / p ≤ k := ⟨Int.ediv_nonneg (by omega) (by omega), Int.ediv_le_self _ (by omega)⟩
    refine run_seq (run_setR (d := .bool (madeB p q k)) (ev_opR (ev_cbR (ds := [.list (((rgI 0 (k / p + 1).toNat).filter fun j => decide ((k - j * p) % q = 0)).map .int)]) (eas_cons (EvF.r (ef_lc (rgI 0 (k / p + 1).toNat) .int (fun j => [(13, .int j)]) (fun j => decide ((k - j * p) % q = 0)) .int (it_rng1 (n := k / p + 1) (eas_cons (ev_opR (ev_opR (ev_var rfl) (ev_var rfl) (rv_fdiv ⟨by omega, by omega⟩)) ev_int rv_add) eas_nil) (by omega)) (fun _ _ => tg_name) (fun _ _ p hp => by
        rw [List.mem_singleton.mp hp]; simp) (fun j hj => ?_) (fun a ha _ => em_R rfl (ev_var rfl)) (by rw [rgI_length]; omega))) eas_nil) (by have h := rc_lenL (K := K) (ds := ((rgI 0 (k / p + 1).toNat).filter fun j => decide ((k - j * p) % q = 0)).map .int); rw [List.length_map] at h; exact h)) ev_int rv_gt) rfl (Nat.le_of_ble_eq_true rfl) ?_)
    · have := mem_rgI.mp hj
      exact KW.eb_test (ev_opR (ev_opR (ev_opR (ev_var rfl) (ev_opR (ev_var rfl) (ev_var rfl) (rv_mul (.inl ⟨by omega, by omega⟩))) rv_sub) (ev_var rfl) (rv_mod (by omega))) ev_int rv_eqI)
    dsimp only [List.set]
    refine run_if (b := false) (EvB.to (b := !decide (t + (lookI (dictF s) k).getD 0 = if madeB p q k then 1 else 0)) (KW.eb_test (ev_opR (ev_var rfl) (ev_cbR (eas_cons (ev_var rfl) eas_nil) rc_intB) rv_neI)) (by rw [decide_eq_true ht1]; rfl)) (fun z => by cases z) fun _ => run_nx ⟨_, _, _, rfl, ht2⟩
  rintro S' ⟨t, e9, e10, rfl, _⟩
  refine run_seq (run_for (rgI 0 s.length) .int (fun k => [(9, .int k)]) (its_rng1 (n := s.length) (eas_cons (EvR.to (ev_cbR (eas_cons (ev_var rfl) eas_nil) rc_lenT) (by rw [List.length_map])) eas_nil) (by omega)) (fun _ _ => tg_name)
    (fun i S' => ∃ (e9 : Sl), S' = [.im (lI ns), .pl pl pc 2, .im (.int p), .im (.int q), .im (sD s), .im (.int wide), .im (.int (dueI p q)), .dk (dictF s), .im (.int t), e9, e10, .no, .no, .no]) ⟨_, rfl⟩ ?_ ?_ ?_)
  · rintro i k S' _ ⟨_, rfl⟩ z hz
    rw [List.mem_singleton.mp hz]
    exact Nat.le_of_ble_eq_true rfl
  · rintro i k S' hk ⟨e9, rfl⟩
    have hkm := List.mem_of_getElem? hk
    have hkr := mem_rgI.mp hkm
    have h11 := b11 k hkm
    change Run K H _ [.im (lI ns), .pl pl pc 2, .im (.int p), .im (.int q), .im (sD s), .im (.int wide), .im (.int (dueI p q)), .dk (dictF s), .im (.int t), .im (.int k), e10, .no, .no, .no] _
    exact run_if (b := false) (EvB.to (b := !decide ((s.getD k.toNat (0, 0)).2 = 1 - 2 * (k % 2))) (KW.eb_test (ev_opR (ev_opR (ev_opR (ev_var rfl) (ev_var rfl) (rv_ixT (atI_map (atI_int (0, 0) (by omega) (by omega))))) ev_int (rv_ixT (atI_nat (j := 1) rfl))) (ev_opR ev_int (ev_opR ev_int (ev_opR (ev_var rfl) ev_int (rv_mod (by decide))) (rv_mul (.inl ⟨by omega, by omega⟩))) rv_sub) rv_neI)) (by rw [decide_eq_true h11]; rfl)) (fun z => by cases z) fun _ => run_nx ⟨_, rfl⟩
  rintro S' ⟨e9, rfl⟩
  have hpq : 1 ≤ p * q ∧ p * q ≤ 100 := by
    have h1 : 1 * 1 ≤ p * q := Int.mul_le_mul hp.1 hq.1 (by decide) (by omega)
    have h2 : p * q ≤ 9 * 10 := Int.mul_le_mul hp.2 hq.2 (by omega) (by decide)
    omega
  refine run_seq (run_parRR (d1 := sD (evenS p)) (d2 := sD (evenS q)) (ev_cbR (ds := [.list ((evenS (p)).map pD)]) (eas_cons (EvF.r (EvF.to (ef_lc (rgI 0 (p).toNat) .int (fun k => [(9, .int k)]) (fun _ => true) (fun k => pD (k, 1)) (it_rng1 (n := p) (eas_cons (ev_var rfl) eas_nil) (by omega)) (fun _ _ => tg_name) (fun _ _ p hp => by
      rw [List.mem_singleton.mp hp]; simp) (fun a ha => fun σ H E Q q => q H (Evl.Ex.refl H)) (fun a ha _ => em_R rfl (ev_tupR (eas_cons (ev_var rfl) (eas_cons ev_int eas_nil)) rfl)) (by rw [rgI_length]; omega)) (by rw [filt, evenS, List.map_map]; rfl))) eas_nil) rc_tupL) (ev_cbR (ds := [.list ((evenS (q)).map pD)]) (eas_cons (EvF.r (EvF.to (ef_lc (rgI 0 (q).toNat) .int (fun k => [(9, .int k)]) (fun _ => true) (fun k => pD (k, 1)) (it_rng1 (n := q) (eas_cons (ev_var rfl) eas_nil) (by omega)) (fun _ _ => tg_name) (fun _ _ p hp => by
      rw [List.mem_singleton.mp hp]; simp) (fun a ha => fun σ H E Q q => q H (Evl.Ex.refl H)) (fun a ha _ => em_R rfl (ev_tupR (eas_cons (ev_var rfl) (eas_cons ev_int eas_nil)) rfl)) (by rw [rgI_length]; omega)) (by rw [filt, evenS, List.map_map]; rfl))) eas_nil) rc_tupL) (noL_sD _) (noL_sD _) (Nat.le_of_ble_eq_true rfl) (Nat.le_of_ble_eq_true rfl) ?_)
  dsimp only [List.set]
  have e1 := (even_bd (n := p) (by omega)).1
  have e2 := (even_bd (n := q) (by omega)).1
  refine run_retR (d := .bool true) (ev_opR (d := sD (evenS (p * q))) (EvR.to (ev_call (ds := [sD (mulF s (evenS p)), sD (evenS q)]) (eas_cons (ev_call (by walk_at "ev") ⟨s, evenS p, rfl, ⟨b1, e1, b13⟩, rfl⟩) (eas_cons (ev_var rfl) eas_nil)) ⟨_, _, rfl, ⟨b12, e2, b14⟩, rfl⟩) (by rw [b15])) (ev_cbR (ds := [.list ((evenS (p * q)).map pD)]) (eas_cons (EvF.r (EvF.to (ef_lc (rgI 0 (p * q).toNat) .int (fun k => [(9, .int k)]) (fun _ => true) (fun k => pD (k, 1)) (it_rng1 (n := p * q) (eas_cons (ev_opR (ev_var rfl) (ev_var rfl) (rv_mul (.inl ⟨by omega, by omega⟩))) eas_nil) (by omega)) (fun _ _ => tg_name) (fun _ _ p hp => by
      rw [List.mem_singleton.mp hp]; simp) (fun a ha => fun σ H E Q q => q H (Evl.Ex.refl H)) (fun a ha _ => em_R rfl (ev_tupR (eas_cons (ev_var rfl) (eas_cons ev_int eas_nil)) rfl)) (by rw [rgI_length]; omega)) (by rw [filt, evenS, List.map_map]; rfl))) eas_nil) rc_tupL) rv_eqSer) fun v H' e r => r.bool
end
end K71

/-! what the top has written; the head -/
namespace K71
open PySem PySem.Spec PyProof.Rows L2 KW
theorem arg_list {K : PySem.W.Frag} {H : Hp} {a : Addr} {ns : List Int} (h : SqL K H a (ns.map V.int)) : RpAll K H [.ref a] [lI ns] := .cons (.inl (.lst h (DpAll.of_ints _))) .nil
set_option maxHeartbeats 0 in
theorem all_mk {l : PySem.W.OpenLaw} {w : World} {K : PySem.W.Frag} {h : Heap} {mg : Str → Option Value} {fa : Addr} (X : K.In h) (G : h.Ns mainGlobals mg) (hfa : mg "law" = some (.ref fa))
    {f_gathered : Addr} {od_gathered an_gathered : Option Addr} {sl_gathered : Array (Option Value)} {oc_gathered kV_gathered dc_gathered pm_gathered cd_gathered ct_gathered : Value}
    {f_single : Addr} {od_single an_single : Option Addr} {sl_single : Array (Option Value)} {oc_single kV_single dc_single pm_single cd_single ct_single : Value}
    {f_add : Addr} {od_add an_add : Option Addr} {sl_add : Array (Option Value)} {oc_add kV_add dc_add pm_add cd_add ct_add : Value}
    {f_times : Addr} {od_times an_times : Option Addr} {sl_times : Array (Option Value)} {oc_times kV_times dc_times pm_times cd_times ct_times : Value}
    {f_less : Addr} {od_less an_less : Option Addr} {sl_less : Array (Option Value)} {oc_less kV_less dc_less pm_less cd_less ct_less : Value}
    {f_multiply : Addr} {od_multiply an_multiply : Option Addr} {sl_multiply : Array (Option Value)} {oc_multiply kV_multiply dc_multiply pm_multiply cd_multiply ct_multiply : Value}
    {f_even_sum : Addr} {od_even_sum an_even_sum : Option Addr} {sl_even_sum : Array (Option Value)} {oc_even_sum kV_even_sum dc_even_sum pm_even_sum cd_even_sum ct_even_sum : Value}
    {f_surface_of_torus : Addr} {od_surface_of_torus an_surface_of_torus : Option Addr} {sl_surface_of_torus : Array (Option Value)} {oc_surface_of_torus kV_surface_of_torus dc_surface_of_torus pm_surface_of_torus cd_surface_of_torus ct_surface_of_torus : Value}
    {f_is_whole : Addr} {od_is_whole an_is_whole : Option Addr} {sl_is_whole : Array (Option Value)} {oc_is_whole kV_is_whole dc_is_whole pm_is_whole cd_is_whole ct_is_whole : Value}
    {f_value_at : Addr} {od_value_at an_value_at : Option Addr} {sl_value_at : Array (Option Value)} {oc_value_at kV_value_at dc_value_at pm_value_at cd_value_at ct_value_at : Value}
    {f_width : Addr} {od_width an_width : Option Addr} {sl_width : Array (Option Value)} {oc_width kV_width dc_width pm_width cd_width ct_width : Value}
    {f_divided : Addr} {od_divided an_divided : Option Addr} {sl_divided : Array (Option Value)} {oc_divided kV_divided dc_divided pm_divided cd_divided ct_divided : Value}
    {f_torus_alexander : Addr} {od_torus_alexander an_torus_alexander : Option Addr} {sl_torus_alexander : Array (Option Value)} {oc_torus_alexander kV_torus_alexander dc_torus_alexander pm_torus_alexander cd_torus_alexander ct_torus_alexander : Value}
    {f_filled : Addr} {od_filled an_filled : Option Addr} {sl_filled : Array (Option Value)} {oc_filled kV_filled dc_filled pm_filled cd_filled ct_filled : Value}
    {f_is_even_both_ways : Addr} {od_is_even_both_ways an_is_even_both_ways : Option Addr} {sl_is_even_both_ways : Array (Option Value)} {oc_is_even_both_ways kV_is_even_both_ways dc_is_even_both_ways pm_is_even_both_ways cd_is_even_both_ways ct_is_even_both_ways : Value}
    {f__law_cell : Addr} {od__law_cell an__law_cell : Option Addr} {sl__law_cell : Array (Option Value)} {oc__law_cell kV__law_cell dc__law_cell pm__law_cell cd__law_cell ct__law_cell : Value}
    {f__law_draws : Addr} {od__law_draws an__law_draws : Option Addr} {sl__law_draws : Array (Option Value)} {oc__law_draws kV__law_draws dc__law_draws pm__law_draws cd__law_draws ct__law_draws : Value}
    {f__law_pool : Addr} {od__law_pool an__law_pool : Option Addr} {sl__law_pool : Array (Option Value)} {oc__law_pool kV__law_pool dc__law_pool pm__law_pool cd__law_pool ct__law_pool : Value}
    {f__law_pick : Addr} {od__law_pick an__law_pick : Option Addr} {sl__law_pick : Array (Option Value)} {oc__law_pick kV__law_pick dc__law_pick pm__law_pick cd__law_pick ct__law_pick : Value}
    {f__law_gcd : Addr} {od__law_gcd an__law_gcd : Option Addr} {sl__law_gcd : Array (Option Value)} {oc__law_gcd kV__law_gcd dc__law_gcd pm__law_gcd cd__law_gcd ct__law_gcd : Value}
    {f_is_series : Addr} {od_is_series an_is_series : Option Addr} {sl_is_series : Array (Option Value)} {oc_is_series kV_is_series dc_is_series pm_is_series cd_is_series ct_is_series : Value}
    {f_law : Addr} {od_law an_law : Option Addr} {sl_law : Array (Option Value)} {oc_law kV_law dc_law pm_law cd_law ct_law : Value}
    (a_gathered : PySem.W.nsIn K mainGlobals "gathered" = some (some (.ref f_gathered))) (l_gathered : K.lookup f_gathered = some ⟨oc_gathered, od_gathered, .func (PySem.W.fnOf "gathered" "gathered" (defArgs s_gathered) (defBody s_gathered) (defScope s_gathered) .none kV_gathered dc_gathered pm_gathered an_gathered cd_gathered ct_gathered), sl_gathered⟩) (c_gathered : PySem.W.codeIn K cd_gathered "gathered" = true) (k_gathered : PySem.W.keepIn K (.ref f_gathered) = true)
    (a_single : PySem.W.nsIn K mainGlobals "single" = some (some (.ref f_single))) (l_single : K.lookup f_single = some ⟨oc_single, od_single, .func (PySem.W.fnOf "single" "single" (defArgs s_single) (defBody s_single) (defScope s_single) .none kV_single dc_single pm_single an_single cd_single ct_single), sl_single⟩) (c_single : PySem.W.codeIn K cd_single "single" = true) (k_single : PySem.W.keepIn K (.ref f_single) = true)
    (a_add : PySem.W.nsIn K mainGlobals "add" = some (some (.ref f_add))) (l_add : K.lookup f_add = some ⟨oc_add, od_add, .func (PySem.W.fnOf "add" "add" (defArgs s_add) (defBody s_add) (defScope s_add) .none kV_add dc_add pm_add an_add cd_add ct_add), sl_add⟩) (c_add : PySem.W.codeIn K cd_add "add" = true) (k_add : PySem.W.keepIn K (.ref f_add) = true)
    (a_times : PySem.W.nsIn K mainGlobals "times" = some (some (.ref f_times))) (l_times : K.lookup f_times = some ⟨oc_times, od_times, .func (PySem.W.fnOf "times" "times" (defArgs s_times) (defBody s_times) (defScope s_times) .none kV_times dc_times pm_times an_times cd_times ct_times), sl_times⟩) (c_times : PySem.W.codeIn K cd_times "times" = true) (k_times : PySem.W.keepIn K (.ref f_times) = true)
    (a_less : PySem.W.nsIn K mainGlobals "less" = some (some (.ref f_less))) (l_less : K.lookup f_less = some ⟨oc_less, od_less, .func (PySem.W.fnOf "less" "less" (defArgs s_less) (defBody s_less) (defScope s_less) .none kV_less dc_less pm_less an_less cd_less ct_less), sl_less⟩) (c_less : PySem.W.codeIn K cd_less "less" = true) (k_less : PySem.W.keepIn K (.ref f_less) = true)
    (a_multiply : PySem.W.nsIn K mainGlobals "multiply" = some (some (.ref f_multiply))) (l_multiply : K.lookup f_multiply = some ⟨oc_multiply, od_multiply, .func (PySem.W.fnOf "multiply" "multiply" (defArgs s_multiply) (defBody s_multiply) (defScope s_multiply) .none kV_multiply dc_multiply pm_multiply an_multiply cd_multiply ct_multiply), sl_multiply⟩) (c_multiply : PySem.W.codeIn K cd_multiply "multiply" = true) (k_multiply : PySem.W.keepIn K (.ref f_multiply) = true)
    (a_even_sum : PySem.W.nsIn K mainGlobals "even_sum" = some (some (.ref f_even_sum))) (l_even_sum : K.lookup f_even_sum = some ⟨oc_even_sum, od_even_sum, .func (PySem.W.fnOf "even_sum" "even_sum" (defArgs s_even_sum) (defBody s_even_sum) (defScope s_even_sum) .none kV_even_sum dc_even_sum pm_even_sum an_even_sum cd_even_sum ct_even_sum), sl_even_sum⟩) (c_even_sum : PySem.W.codeIn K cd_even_sum "even_sum" = true) (k_even_sum : PySem.W.keepIn K (.ref f_even_sum) = true)
    (a_surface_of_torus : PySem.W.nsIn K mainGlobals "surface_of_torus" = some (some (.ref f_surface_of_torus))) (l_surface_of_torus : K.lookup f_surface_of_torus = some ⟨oc_surface_of_torus, od_surface_of_torus, .func (PySem.W.fnOf "surface_of_torus" "surface_of_torus" (defArgs s_surface_of_torus) (defBody s_surface_of_torus) (defScope s_surface_of_torus) .none kV_surface_of_torus dc_surface_of_torus pm_surface_of_torus an_surface_of_torus cd_surface_of_torus ct_surface_of_torus), sl_surface_of_torus⟩) (c_surface_of_torus : PySem.W.codeIn K cd_surface_of_torus "surface_of_torus" = true) (k_surface_of_torus : PySem.W.keepIn K (.ref f_surface_of_torus) = true)
    (a_is_whole : PySem.W.nsIn K mainGlobals "is_whole" = some (some (.ref f_is_whole))) (l_is_whole : K.lookup f_is_whole = some ⟨oc_is_whole, od_is_whole, .func (PySem.W.fnOf "is_whole" "is_whole" (defArgs s_is_whole) (defBody s_is_whole) (defScope s_is_whole) .none kV_is_whole dc_is_whole pm_is_whole an_is_whole cd_is_whole ct_is_whole), sl_is_whole⟩) (c_is_whole : PySem.W.codeIn K cd_is_whole "is_whole" = true) (k_is_whole : PySem.W.keepIn K (.ref f_is_whole) = true)
    (a_value_at : PySem.W.nsIn K mainGlobals "value_at" = some (some (.ref f_value_at))) (l_value_at : K.lookup f_value_at = some ⟨oc_value_at, od_value_at, .func (PySem.W.fnOf "value_at" "value_at" (defArgs s_value_at) (defBody s_value_at) (defScope s_value_at) .none kV_value_at dc_value_at pm_value_at an_value_at cd_value_at ct_value_at), sl_value_at⟩) (c_value_at : PySem.W.codeIn K cd_value_at "value_at" = true) (k_value_at : PySem.W.keepIn K (.ref f_value_at) = true)
    (a_width : PySem.W.nsIn K mainGlobals "width" = some (some (.ref f_width))) (l_width : K.lookup f_width = some ⟨oc_width, od_width, .func (PySem.W.fnOf "width" "width" (defArgs s_width) (defBody s_width) (defScope s_width) .none kV_width dc_width pm_width an_width cd_width ct_width), sl_width⟩) (c_width : PySem.W.codeIn K cd_width "width" = true) (k_width : PySem.W.keepIn K (.ref f_width) = true)
    (a_divided : PySem.W.nsIn K mainGlobals "divided" = some (some (.ref f_divided))) (l_divided : K.lookup f_divided = some ⟨oc_divided, od_divided, .func (PySem.W.fnOf "divided" "divided" (defArgs s_divided) (defBody s_divided) (defScope s_divided) .none kV_divided dc_divided pm_divided an_divided cd_divided ct_divided), sl_divided⟩) (c_divided : PySem.W.codeIn K cd_divided "divided" = true) (k_divided : PySem.W.keepIn K (.ref f_divided) = true)
    (a_torus_alexander : PySem.W.nsIn K mainGlobals "torus_alexander" = some (some (.ref f_torus_alexander))) (l_torus_alexander : K.lookup f_torus_alexander = some ⟨oc_torus_alexander, od_torus_alexander, .func (PySem.W.fnOf "torus_alexander" "torus_alexander" (defArgs s_torus_alexander) (defBody s_torus_alexander) (defScope s_torus_alexander) .none kV_torus_alexander dc_torus_alexander pm_torus_alexander an_torus_alexander cd_torus_alexander ct_torus_alexander), sl_torus_alexander⟩) (c_torus_alexander : PySem.W.codeIn K cd_torus_alexander "torus_alexander" = true) (k_torus_alexander : PySem.W.keepIn K (.ref f_torus_alexander) = true)
    (a_filled : PySem.W.nsIn K mainGlobals "filled" = some (some (.ref f_filled))) (l_filled : K.lookup f_filled = some ⟨oc_filled, od_filled, .func (PySem.W.fnOf "filled" "filled" (defArgs s_filled) (defBody s_filled) (defScope s_filled) .none kV_filled dc_filled pm_filled an_filled cd_filled ct_filled), sl_filled⟩) (c_filled : PySem.W.codeIn K cd_filled "filled" = true) (k_filled : PySem.W.keepIn K (.ref f_filled) = true)
    (a_is_even_both_ways : PySem.W.nsIn K mainGlobals "is_even_both_ways" = some (some (.ref f_is_even_both_ways))) (l_is_even_both_ways : K.lookup f_is_even_both_ways = some ⟨oc_is_even_both_ways, od_is_even_both_ways, .func (PySem.W.fnOf "is_even_both_ways" "is_even_both_ways" (defArgs s_is_even_both_ways) (defBody s_is_even_both_ways) (defScope s_is_even_both_ways) .none kV_is_even_both_ways dc_is_even_both_ways pm_is_even_both_ways an_is_even_both_ways cd_is_even_both_ways ct_is_even_both_ways), sl_is_even_both_ways⟩) (c_is_even_both_ways : PySem.W.codeIn K cd_is_even_both_ways "is_even_both_ways" = true) (k_is_even_both_ways : PySem.W.keepIn K (.ref f_is_even_both_ways) = true)
    (a__law_cell : PySem.W.nsIn K mainGlobals "_law_cell" = some (some (.ref f__law_cell))) (l__law_cell : K.lookup f__law_cell = some ⟨oc__law_cell, od__law_cell, .func (PySem.W.fnOf "_law_cell" "_law_cell" (defArgs s__law_cell) (defBody s__law_cell) (defScope s__law_cell) .none kV__law_cell dc__law_cell pm__law_cell an__law_cell cd__law_cell ct__law_cell), sl__law_cell⟩) (c__law_cell : PySem.W.codeIn K cd__law_cell "_law_cell" = true) (k__law_cell : PySem.W.keepIn K (.ref f__law_cell) = true)
    (a__law_draws : PySem.W.nsIn K mainGlobals "_law_draws" = some (some (.ref f__law_draws))) (l__law_draws : K.lookup f__law_draws = some ⟨oc__law_draws, od__law_draws, .func (PySem.W.fnOf "_law_draws" "_law_draws" (defArgs s__law_draws) (defBody s__law_draws) (defScope s__law_draws) .none kV__law_draws dc__law_draws pm__law_draws an__law_draws cd__law_draws ct__law_draws), sl__law_draws⟩) (c__law_draws : PySem.W.codeIn K cd__law_draws "_law_draws" = true) (k__law_draws : PySem.W.keepIn K (.ref f__law_draws) = true)
    (a__law_pool : PySem.W.nsIn K mainGlobals "_law_pool" = some (some (.ref f__law_pool))) (l__law_pool : K.lookup f__law_pool = some ⟨oc__law_pool, od__law_pool, .func (PySem.W.fnOf "_law_pool" "_law_pool" (defArgs s__law_pool) (defBody s__law_pool) (defScope s__law_pool) .none kV__law_pool dc__law_pool pm__law_pool an__law_pool cd__law_pool ct__law_pool), sl__law_pool⟩) (c__law_pool : PySem.W.codeIn K cd__law_pool "_law_pool" = true) (k__law_pool : PySem.W.keepIn K (.ref f__law_pool) = true)
    (a__law_pick : PySem.W.nsIn K mainGlobals "_law_pick" = some (some (.ref f__law_pick))) (l__law_pick : K.lookup f__law_pick = some ⟨oc__law_pick, od__law_pick, .func (PySem.W.fnOf "_law_pick" "_law_pick" (defArgs s__law_pick) (defBody s__law_pick) (defScope s__law_pick) .none kV__law_pick dc__law_pick pm__law_pick an__law_pick cd__law_pick ct__law_pick), sl__law_pick⟩) (c__law_pick : PySem.W.codeIn K cd__law_pick "_law_pick" = true) (k__law_pick : PySem.W.keepIn K (.ref f__law_pick) = true)
    (a__law_gcd : PySem.W.nsIn K mainGlobals "_law_gcd" = some (some (.ref f__law_gcd))) (l__law_gcd : K.lookup f__law_gcd = some ⟨oc__law_gcd, od__law_gcd, .func (PySem.W.fnOf "_law_gcd" "_law_gcd" (defArgs s__law_gcd) (defBody s__law_gcd) (defScope s__law_gcd) .none kV__law_gcd dc__law_gcd pm__law_gcd an__law_gcd cd__law_gcd ct__law_gcd), sl__law_gcd⟩) (c__law_gcd : PySem.W.codeIn K cd__law_gcd "_law_gcd" = true) (k__law_gcd : PySem.W.keepIn K (.ref f__law_gcd) = true)
    (a_is_series : PySem.W.nsIn K mainGlobals "is_series" = some (some (.ref f_is_series))) (l_is_series : K.lookup f_is_series = some ⟨oc_is_series, od_is_series, .func (PySem.W.fnOf "is_series" "is_series" (defArgs s_is_series) (defBody s_is_series) (defScope s_is_series) .none kV_is_series dc_is_series pm_is_series an_is_series cd_is_series ct_is_series), sl_is_series⟩) (c_is_series : PySem.W.codeIn K cd_is_series "is_series" = true) (k_is_series : PySem.W.keepIn K (.ref f_is_series) = true)
    (a_law : PySem.W.nsIn K mainGlobals "law" = some (some (.ref f_law))) (l_law : K.lookup f_law = some ⟨oc_law, od_law, .func (PySem.W.fnOf "law" "law" (defArgs s_law) (defBody s_law) (defScope s_law) .none kV_law dc_law pm_law an_law cd_law ct_law), sl_law⟩) (c_law : PySem.W.codeIn K cd_law "law" = true) (k_law : PySem.W.keepIn K (.ref f_law) = true)
    (z_abs : PySem.W.nsIn K mainGlobals "abs" = some none)
    (z_all : PySem.W.nsIn K mainGlobals "all" = some none)
    (z_bool : PySem.W.nsIn K mainGlobals "bool" = some none)
    (z_dict : PySem.W.nsIn K mainGlobals "dict" = some none)
    (z_int : PySem.W.nsIn K mainGlobals "int" = some none)
    (z_isinstance : PySem.W.nsIn K mainGlobals "isinstance" = some none)
    (z_len : PySem.W.nsIn K mainGlobals "len" = some none)
    (z_list : PySem.W.nsIn K mainGlobals "list" = some none)
    (z_max : PySem.W.nsIn K mainGlobals "max" = some none)
    (z_min : PySem.W.nsIn K mainGlobals "min" = some none)
    (z_range : PySem.W.nsIn K mainGlobals "range" = some none)
    (z_set : PySem.W.nsIn K mainGlobals "set" = some none)
    (z_sorted : PySem.W.nsIn K mainGlobals "sorted" = some none)
    (z_sum : PySem.W.nsIn K mainGlobals "sum" = some none)
    (z_tuple : PySem.W.nsIn K mainGlobals "tuple" = some none)
    : ∃ fd : FuncData, (∀ (s : Shared) (v : Value), BindsTo s fd ⟨[v], []⟩ [("script", v)]) ∧ ∀ base : Heap, K.In base → base.Ns mainGlobals mg → FnOk l.prog w K mg base CX0 6 fa fd ["script"] (spLaw K) := by
  have e := hfa.symm.trans (PySem.W.mg_of X G a_law)
  cases e
  have F_gathered := fun_mk (st := s_gathered) l_gathered c_gathered k_gathered
  have b_gathered := F_gathered.binds (ps := ["rows"]) fun _ _ _ _ _ _ us hl => match us, hl with | [_], _ => rfl
  have F_single := fun_mk (st := s_single) l_single c_single k_single
  have b_single := F_single.binds (ps := ["power", "number"]) fun _ _ _ _ _ _ us hl => match us, hl with | [_, _], _ => rfl
  have F_add := fun_mk (st := s_add) l_add c_add k_add
  have b_add := F_add.binds (ps := ["one", "two"]) fun _ _ _ _ _ _ us hl => match us, hl with | [_, _], _ => rfl
  have F_times := fun_mk (st := s_times) l_times c_times k_times
  have b_times := F_times.binds (ps := ["series", "number"]) fun _ _ _ _ _ _ us hl => match us, hl with | [_, _], _ => rfl
  have F_less := fun_mk (st := s_less) l_less c_less k_less
  have b_less := F_less.binds (ps := ["one", "two"]) fun _ _ _ _ _ _ us hl => match us, hl with | [_, _], _ => rfl
  have F_multiply := fun_mk (st := s_multiply) l_multiply c_multiply k_multiply
  have b_multiply := F_multiply.binds (ps := ["one", "two"]) fun _ _ _ _ _ _ us hl => match us, hl with | [_, _], _ => rfl
  have F_even_sum := fun_mk (st := s_even_sum) l_even_sum c_even_sum k_even_sum
  have b_even_sum := F_even_sum.binds (ps := ["n"]) fun _ _ _ _ _ _ us hl => match us, hl with | [_], _ => rfl
  have F_surface_of_torus := fun_mk (st := s_surface_of_torus) l_surface_of_torus c_surface_of_torus k_surface_of_torus
  have b_surface_of_torus := F_surface_of_torus.binds (ps := ["p", "q"]) fun _ _ _ _ _ _ us hl => match us, hl with | [_, _], _ => rfl
  have F_is_whole := fun_mk (st := s_is_whole) l_is_whole c_is_whole k_is_whole
  have b_is_whole := F_is_whole.binds (ps := ["value"]) fun _ _ _ _ _ _ us hl => match us, hl with | [_], _ => rfl
  have F_value_at := fun_mk (st := s_value_at) l_value_at c_value_at k_value_at
  have b_value_at := F_value_at.binds (ps := ["series", "number"]) fun _ _ _ _ _ _ us hl => match us, hl with | [_, _], _ => rfl
  have F_width := fun_mk (st := s_width) l_width c_width k_width
  have b_width := F_width.binds (ps := ["series"]) fun _ _ _ _ _ _ us hl => match us, hl with | [_], _ => rfl
  have F_divided := fun_mk (st := s_divided) l_divided c_divided k_divided
  have b_divided := F_divided.binds (ps := ["one", "two"]) fun _ _ _ _ _ _ us hl => match us, hl with | [_, _], _ => rfl
  have F_torus_alexander := fun_mk (st := s_torus_alexander) l_torus_alexander c_torus_alexander k_torus_alexander
  have b_torus_alexander := F_torus_alexander.binds (ps := ["p", "q"]) fun _ _ _ _ _ _ us hl => match us, hl with | [_, _], _ => rfl
  have F_filled := fun_mk (st := s_filled) l_filled c_filled k_filled
  have b_filled := F_filled.binds (ps := ["series"]) fun _ _ _ _ _ _ us hl => match us, hl with | [_], _ => rfl
  have F_is_even_both_ways := fun_mk (st := s_is_even_both_ways) l_is_even_both_ways c_is_even_both_ways k_is_even_both_ways
  have b_is_even_both_ways := F_is_even_both_ways.binds (ps := ["series"]) fun _ _ _ _ _ _ us hl => match us, hl with | [_], _ => rfl
  have F__law_cell := fun_mk (st := s__law_cell) l__law_cell c__law_cell k__law_cell
  have b__law_cell := F__law_cell.binds (ps := ["script", "k"]) fun _ _ _ _ _ _ us hl => match us, hl with | [_, _], _ => rfl
  have F__law_draws := fun_mk (st := s__law_draws) l__law_draws c__law_draws k__law_draws
  have b__law_draws := F__law_draws.binds (ps := ["cell", "amount"]) fun _ _ _ _ _ _ us hl => match us, hl with | [_, _], _ => rfl
  have F__law_pool := fun_mk (st := s__law_pool) l__law_pool c__law_pool k__law_pool
  have b__law_pool := F__law_pool.binds (ps := ["script"]) fun _ _ _ _ _ _ us hl => match us, hl with | [_], _ => rfl
  have F__law_pick := fun_mk (st := s__law_pick) l__law_pick c__law_pick k__law_pick
  have b__law_pick := F__law_pick.binds (ps := ["pool", "amount"]) fun _ _ _ _ _ _ us hl => match us, hl with | [_, _], _ => rfl
  have F__law_gcd := fun_mk (st := s__law_gcd) l__law_gcd c__law_gcd k__law_gcd
  have b__law_gcd := F__law_gcd.binds (ps := ["a", "b"]) fun _ _ _ _ _ _ us hl => match us, hl with | [_, _], _ => rfl
  have F_is_series := fun_mk (st := s_is_series) l_is_series c_is_series k_is_series
  have b_is_series := F_is_series.binds (ps := ["value"]) fun _ _ _ _ _ _ us hl => match us, hl with | [_], _ => rfl
  have F_law := fun_mk (st := s_law) l_law c_law k_law
  have m_abs := PySem.W.mg_none_of X G z_abs
  have m_all := PySem.W.mg_none_of X G z_all
  have m_bool := PySem.W.mg_none_of X G z_bool
  have m_dict := PySem.W.mg_none_of X G z_dict
  have m_int := PySem.W.mg_none_of X G z_int
  have m_isinstance := PySem.W.mg_none_of X G z_isinstance
  have m_len := PySem.W.mg_none_of X G z_len
  have m_list := PySem.W.mg_none_of X G z_list
  have m_max := PySem.W.mg_none_of X G z_max
  have m_min := PySem.W.mg_none_of X G z_min
  have m_range := PySem.W.mg_none_of X G z_range
  have m_set := PySem.W.mg_none_of X G z_set
  have m_sorted := PySem.W.mg_none_of X G z_sorted
  have m_sum := PySem.W.mg_none_of X G z_sum
  have m_tuple := PySem.W.mg_none_of X G z_tuple
  have m : Bl mg := ⟨m_abs, m_all, m_bool, m_dict, m_int, m_isinstance, m_len, m_list, m_max, m_min, m_range, m_set, m_sorted, m_sum, m_tuple⟩
  refine ⟨PySem.W.fnOf "law" "law" (defArgs s_law) (defBody s_law) (defScope s_law) .none kV_law dc_law pm_law an_law cd_law ct_law, fun s v => .of_eq rfl, fun base _ _ => ?_⟩
  have d_gathered := DefOk.mk' (P := l.prog) (w := w) (base := base) F_gathered (ok_gathered F_gathered m) (PySem.W.mg_of X G a_gathered) b_gathered
  have d_single := DefOk.mk' (P := l.prog) (w := w) (base := base) F_single (ok_single F_single m d_gathered) (PySem.W.mg_of X G a_single) b_single
  have d_add := DefOk.mk' (P := l.prog) (w := w) (base := base) F_add (ok_add F_add m d_gathered) (PySem.W.mg_of X G a_add) b_add
  have d_times := DefOk.mk' (P := l.prog) (w := w) (base := base) F_times (ok_times F_times m d_gathered) (PySem.W.mg_of X G a_times) b_times
  have d_less := DefOk.mk' (P := l.prog) (w := w) (base := base) F_less (ok_less F_less m d_gathered d_times) (PySem.W.mg_of X G a_less) b_less
  have d_multiply := DefOk.mk' (P := l.prog) (w := w) (base := base) F_multiply (ok_multiply F_multiply m d_gathered) (PySem.W.mg_of X G a_multiply) b_multiply
  have d_even_sum := DefOk.mk' (P := l.prog) (w := w) (base := base) F_even_sum (ok_even_sum F_even_sum m) (PySem.W.mg_of X G a_even_sum) b_even_sum
  have d_surface_of_torus := DefOk.mk' (P := l.prog) (w := w) (base := base) F_surface_of_torus (ok_surface_of_torus F_surface_of_torus m) (PySem.W.mg_of X G a_surface_of_torus) b_surface_of_torus
  have d_is_whole := DefOk.mk' (P := l.prog) (w := w) (base := base) F_is_whole (ok_is_whole F_is_whole m) (PySem.W.mg_of X G a_is_whole) b_is_whole
  have d_value_at := DefOk.mk' (P := l.prog) (w := w) (base := base) F_value_at (ok_value_at F_value_at m) (PySem.W.mg_of X G a_value_at) b_value_at
  have d_width := DefOk.mk' (P := l.prog) (w := w) (base := base) F_width (ok_width F_width m) (PySem.W.mg_of X G a_width) b_width
  have d_divided := DefOk.mk' (P := l.prog) (w := w) (base := base) F_divided (ok_divided F_divided m d_width d_single d_add d_less d_multiply) (PySem.W.mg_of X G a_divided) b_divided
  have d_torus_alexander := DefOk.mk' (P := l.prog) (w := w) (base := base) F_torus_alexander (ok_torus_alexander F_torus_alexander m d_divided d_even_sum) (PySem.W.mg_of X G a_torus_alexander) b_torus_alexander
  have d_filled := DefOk.mk' (P := l.prog) (w := w) (base := base) F_filled (ok_filled F_filled m) (PySem.W.mg_of X G a_filled) b_filled
  have d_is_even_both_ways := DefOk.mk' (P := l.prog) (w := w) (base := base) F_is_even_both_ways (ok_is_even_both_ways F_is_even_both_ways m d_filled) (PySem.W.mg_of X G a_is_even_both_ways) b_is_even_both_ways
  have d__law_cell := DefOk.mk' (P := l.prog) (w := w) (base := base) F__law_cell (ok__law_cell F__law_cell m) (PySem.W.mg_of X G a__law_cell) b__law_cell
  have d__law_draws := DefOk.mk' (P := l.prog) (w := w) (base := base) F__law_draws (ok__law_draws F__law_draws m) (PySem.W.mg_of X G a__law_draws) b__law_draws
  have d__law_pool := DefOk.mk' (P := l.prog) (w := w) (base := base) F__law_pool (ok__law_pool F__law_pool m trivial d__law_cell d__law_draws) (PySem.W.mg_of X G a__law_pool) b__law_pool
  have d__law_pick := DefOk.mk' (P := l.prog) (w := w) (base := base) F__law_pick (ok__law_pick F__law_pick m) (PySem.W.mg_of X G a__law_pick) b__law_pick
  have d__law_gcd := DefOk.mk' (P := l.prog) (w := w) (base := base) F__law_gcd (ok__law_gcd F__law_gcd m) (PySem.W.mg_of X G a__law_gcd) b__law_gcd
  have d_is_series := DefOk.mk' (P := l.prog) (w := w) (base := base) F_is_series (ok_is_series F_is_series m d_is_whole) (PySem.W.mg_of X G a_is_series) b_is_series
  exact ok_law F_law m d__law_pool d__law_pick d__law_gcd d_torus_alexander d_is_series d_width d_surface_of_torus d_is_even_both_ways d_value_at d_multiply
end K71
open PySem PySem.W PyProof.Rows
set_option maxHeartbeats 0 in
theorem PySem.Challenge.cw_knotwright_k71_whole_ring_links_reckoned_holds : PySem.Challenge.rw_knotwright_k71_whole_ring_links_reckoned.Holds := by
  w_on; o_law; k_head; (case hw => w_witness2)
  k_fill
  refine L2.walk_of (l := PySem.Challenge.rw_knotwright_k71_whole_ring_links_reckoned) (n := 63) (k := 6) (x := "script") (CX := fun _ => L2.CX0) (sp := fun w => K71.spLaw _) rfl (by decide) rfl ⟨rfl, by decide, by decide⟩ (fun w h Y => PySem.W.kIn_of Y) ?F (fun _ _ a ns hl _ hS => ⟨ns, K71.arg_list hS, by omega, fun _ => rfl⟩) (fun _ _ _ _ _ h => h)
  case F =>
    intro w mg fa h KX G hmg
    refine' K71.all_mk KX G hmg ?a_gathered ?l_gathered ?c_gathered ?k_gathered ?a_single ?l_single ?c_single ?k_single ?a_add ?l_add ?c_add ?k_add ?a_times ?l_times ?c_times ?k_times ?a_less ?l_less ?c_less ?k_less ?a_multiply ?l_multiply ?c_multiply ?k_multiply ?a_even_sum ?l_even_sum ?c_even_sum ?k_even_sum ?a_surface_of_torus ?l_surface_of_torus ?c_surface_of_torus ?k_surface_of_torus ?a_is_whole ?l_is_whole ?c_is_whole ?k_is_whole ?a_value_at ?l_value_at ?c_value_at ?k_value_at ?a_width ?l_width ?c_width ?k_width ?a_divided ?l_divided ?c_divided ?k_divided ?a_torus_alexander ?l_torus_alexander ?c_torus_alexander ?k_torus_alexander ?a_filled ?l_filled ?c_filled ?k_filled ?a_is_even_both_ways ?l_is_even_both_ways ?c_is_even_both_ways ?k_is_even_both_ways ?a__law_cell ?l__law_cell ?c__law_cell ?k__law_cell ?a__law_draws ?l__law_draws ?c__law_draws ?k__law_draws ?a__law_pool ?l__law_pool ?c__law_pool ?k__law_pool ?a__law_pick ?l__law_pick ?c__law_pick ?k__law_pick ?a__law_gcd ?l__law_gcd ?c__law_gcd ?k__law_gcd ?a_is_series ?l_is_series ?c_is_series ?k_is_series ?a_law ?l_law ?c_law ?k_law ?z_abs ?z_all ?z_bool ?z_dict ?z_int ?z_isinstance ?z_len ?z_list ?z_max ?z_min ?z_range ?z_set ?z_sorted ?z_sum ?z_tuple
    (case a_gathered => k_is); (case l_gathered => k_is); (case c_gathered => k_is); (case k_gathered => k_is); (case a_single => k_is); (case l_single => k_is); (case c_single => k_is); (case k_single => k_is); (case a_add => k_is); (case l_add => k_is); (case c_add => k_is); (case k_add => k_is); (case a_times => k_is); (case l_times => k_is); (case c_times => k_is); (case k_times => k_is); (case a_less => k_is); (case l_less => k_is); (case c_less => k_is); (case k_less => k_is); (case a_multiply => k_is); (case l_multiply => k_is); (case c_multiply => k_is); (case k_multiply => k_is); (case a_even_sum => k_is); (case l_even_sum => k_is); (case c_even_sum => k_is); (case k_even_sum => k_is); (case a_surface_of_torus => k_is); (case l_surface_of_torus => k_is); (case c_surface_of_torus => k_is); (case k_surface_of_torus => k_is); (case a_is_whole => k_is); (case l_is_whole => k_is); (case c_is_whole => k_is); (case k_is_whole => k_is); (case a_value_at => k_is); (case l_value_at => k_is); (case c_value_at => k_is); (case k_value_at => k_is); (case a_width => k_is); (case l_width => k_is); (case c_width => k_is); (case k_width => k_is); (case a_divided => k_is); (case l_divided => k_is); (case c_divided => k_is); (case k_divided => k_is); (case a_torus_alexander => k_is); (case l_torus_alexander => k_is); (case c_torus_alexander => k_is); (case k_torus_alexander => k_is); (case a_filled => k_is); (case l_filled => k_is); (case c_filled => k_is); (case k_filled => k_is); (case a_is_even_both_ways => k_is); (case l_is_even_both_ways => k_is); (case c_is_even_both_ways => k_is); (case k_is_even_both_ways => k_is); (case a__law_cell => k_is); (case l__law_cell => k_is); (case c__law_cell => k_is); (case k__law_cell => k_is); (case a__law_draws => k_is); (case l__law_draws => k_is); (case c__law_draws => k_is); (case k__law_draws => k_is); (case a__law_pool => k_is); (case l__law_pool => k_is); (case c__law_pool => k_is); (case k__law_pool => k_is); (case a__law_pick => k_is); (case l__law_pick => k_is); (case c__law_pick => k_is); (case k__law_pick => k_is); (case a__law_gcd => k_is); (case l__law_gcd => k_is); (case c__law_gcd => k_is); (case k__law_gcd => k_is); (case a_is_series => k_is); (case l_is_series => k_is); (case c_is_series => k_is); (case k_is_series => k_is); (case a_law => k_is); (case l_law => k_is); (case c_law => k_is); (case k_law => k_is); (case z_abs => k_is); (case z_all => k_is); (case z_bool => k_is); (case z_dict => k_is); (case z_int => k_is); (case z_isinstance => k_is); (case z_len => k_is); (case z_list => k_is); (case z_max => k_is); (case z_min => k_is); (case z_range => k_is); (case z_set => k_is); (case z_sorted => k_is); (case z_sum => k_is); (case z_tuple => k_is)
