import PyProof.Rows.All
import Wide.All
import OpenK.AllK
import Wide.FinOn
import HandS.ForMost
import HandS.Evl
import HandS.TupAny
import HandS.Style
import HandS.Conv
import HandS.DictComp
import HandS.IsInst
import HandS.SetFor
import KE.DataMinMax
import HandS.Strs
import HandS.Wide
import HandS.TupMul
import PySem.Challenge.RW_knotwright_k69_whole_braids_of_orders
set_option Elab.async false
set_option linter.all false
set_option maxRecDepth 100000
set_option maxHeartbeats 4000000
/-! Tuples whose objects are known: that they have no dict of their own is not forgotten. -/
namespace KW
open PySem PySem.Spec PyProof.Rows L2 Evl
def tupO (its : List Value) : Obj := { cls := .type "tuple", data := .seq its.toArray }
def XT (its : List Value) (xs : List V) : HO := .frz (tupO its) (.tup xs)
def SqT (_ : PySem.W.Frag) (H : Hp) (a : Addr) (xs : List V) : Prop := ∃ its, H a = some (XT its xs)
theorem SqT.t {K : PySem.W.Frag} {H : Hp} {a : Addr} {xs : List V} (h : SqT K H a xs) : L2.SqT K H a xs := let ⟨_, e⟩ := h; .inl (.inr ⟨_, e⟩)
instance {K : PySem.W.Frag} {H : Hp} {a : Addr} {xs : List V} : Coe (SqT K H a xs) (L2.SqT K H a xs) := ⟨SqT.t⟩
theorem ex_t {K : PySem.W.Frag} {H H' : Hp} {a : Addr} {xs : List V} (e : Ex H H') (h : SqT K H a xs) : SqT K H' a xs := let ⟨i, q⟩ := h; ⟨i, e _ _ q⟩
theorem st_of {K : PySem.W.Frag} {H : Hp} {a : Addr} {its : List Value} {xs : List V} (h : H a = some (XT its xs)) : SqT K H a xs := ⟨its, h⟩
mutual
inductive Dp (K : PySem.W.Frag) (H : Hp) : V → PyData → Prop
  | non : Dp K H .non .none
  | bl (b : Bool) : Dp K H (.bl b) (.bool b)
  | int (i : Int) : Dp K H (.int i) (.int i)
  | str (x : Str) : Dp K H (.str x) (.str x)
  | lst {a : Addr} {xs : List V} {ds : List PyData} : SqL K H a xs → DpAll K H xs ds → Dp K H (.ref a) (.list ds)
  | tup {a : Addr} {xs : List V} {ds : List PyData} : SqT K H a xs → DpAll K H xs ds → Dp K H (.ref a) (.tuple ds)
inductive DpAll (K : PySem.W.Frag) (H : Hp) : List V → List PyData → Prop
  | nil : DpAll K H [] []
  | cons {v : V} {vs : List V} {d : PyData} {ds : List PyData} : Dp K H v d → DpAll K H vs ds → DpAll K H (v :: vs) (d :: ds)
end
section
variable {K : PySem.W.Frag} {H : Hp}
mutual
theorem Dp.l : ∀ {d : PyData} {v : V}, Dp K H v d → L2.Dp K H v d
  | _, _, .non => .non
  | _, _, .bl b => .bl b
  | _, _, .int i => .int i
  | _, _, .str x => .str x
  | _, _, .lst a b => .lst a (DpAll.l b)
  | _, _, .tup a b => .tup a.t (DpAll.l b)
theorem DpAll.l : ∀ {ds : List PyData} {vs : List V}, DpAll K H vs ds → L2.DpAll K H vs ds
  | _, _, .nil => .nil
  | _, _, .cons a b => .cons (Dp.l a) (DpAll.l b)
end
end
instance {K : PySem.W.Frag} {H : Hp} {v : V} {d : PyData} : Coe (Dp K H v d) (L2.Dp K H v d) := ⟨Dp.l⟩
instance {K : PySem.W.Frag} {H : Hp} {v : List V} {d : List PyData} : Coe (DpAll K H v d) (L2.DpAll K H v d) := ⟨DpAll.l⟩
section
variable {X : Cx} {pins : List (Addr × Obj)} {σ : L2.St} {H : Hp} {s : Shared}
/-- a new tuple, laid -/
theorem xt_ok {P : Program} {w : World} {h : Heap} {a : Addr} {its : List Value} {xs : List V} (hz : xs.length ≤ sizeLine) (r : Vals xs its) (e : h.get? a = some (tupO its)) : ObjOk P w H h a (XT its xs) :=
  ⟨e, hz, its, r, _, e, rfl, _, rfl⟩
def tTup (t : TA) : TE := fun σ H Q => t σ H fun xs H1 => xs.length ≤ sizeLine ∧ ∀ {its : List Value} p, H1 p = none → Q (.ref p) (upd H1 p (XT its xs))
theorem pe_tup {es : List Expr} {t : TA} {pos : Pos} {x1} (h : PA X es t) : PE X (.Tuple es x1 pos) (tTup t) :=
  ⟨fun pins s σ H Q I hq => wpAny_Tuple_spliced (thn (h.run pos pins s σ H _ I hq) fun us s1 ⟨xs, H1, I1, r, z, q⟩ => ⟨by rw [← r.length]; exact z,
    .ref s1.heap.objs.size, _, I1.laid (t' := s1.toks) (fun b u e => Heap.get?_push_of_some _ e) (Nat.le_refl _) (xt_ok z r (Heap.get?_push_size _ rfl)), rfl, q _ (I1.hok.fresh (Nat.le_refl _))⟩)⟩
def rTupOf (K : PySem.W.Frag) : List V → Hp → VK → Prop := fun xs H Q => ∃ p ys, xs = [.ref p] ∧ ((SqL K H p ys ∧ ∀ {its : List Value} l, H l = none → Q (.ref l) (upd H l (XT its ys))) ∨ (L2.SqT K H p ys ∧ Q (.ref p) H))
theorem cr_tupOf : CallR X (.type "tuple") (rTupOf X.K) := by
  intro pins s σ H xs us Q I r ⟨p, ys, ex, h⟩
  subst ex
  obtain ⟨u, rfl, rx⟩ := vals1 r
  cases rx
  rcases h with ⟨hq, q⟩ | ⟨hq, q⟩
  · obtain ⟨its, r', pl, hz⟩ := I.list hq
    have hlen := r'.length
    exact call_tuple_list pl.isList (fun h' kp => ⟨.ref h'.objs.size, _, (I.kept (t' := s.toks) kp).laid (t' := s.toks) (fun b o e => Heap.get?_push_of_some _ e) (Nat.le_refl _) (xt_ok hz r' (Heap.get?_push_size _ rfl)), rfl,
      q _ ((I.kept (t' := s.toks) kp).hok.fresh (Nat.le_refl _))⟩) (by simp only [List.size_toArray] <;> omega)
  · obtain ⟨its, r', pl, hz⟩ := I.tuple hq
    exact call_tuple_same pl ⟨.ref p, H, I, rfl, q⟩
def tTupRg (te : L2.St → Hp → (Int → Int → Hp → Prop) → Prop) : TE := fun σ H Q => te σ H fun a b H1 => RgOk a b ∧ ∀ {its : List Value} q, H1 q = none → Q (.ref q) (upd H1 q (XT its (rgV a b)))
theorem pe_tupRg {e : Expr} {te : L2.St → Hp → (Int → Int → Hp → Prop) → Prop} {p pos : Pos} (hc : X.calm = true) (hg : Gl X "tuple") (hm : X.mg "tuple" = none) (he : PRg X e te) (na : starEach [e] X.env = (false, eval e X.env) :: starEach [] X.env := by rfl) :
    PE X (.Call (.Name "tuple" p) [e] [] pos) (tTupRg te) := by
  refine ⟨fun pins s σ H Q I h => Call_ (ld_blt I hg hm boot_tuple (PyProof.Rows.callWith_type1 (args_cons (thn (he pins s σ H _ I h) fun x s1 ⟨r, a, b, t, u, v, H1, ex, hr, I1, ok, q⟩ => args_nil ?_) na) na))⟩
  subst ex
  obtain ⟨b1, b2, b3, b4, b5⟩ := ok
  refine call_tuple_range (n := (b - a).toNat) (I1.ok.hd hc) hr (small_one b1 b2 b3 b4) (rangeSize_nat a b) b5 fun h' tk acc hk hi => ?_
  have I2 : Inv X pins σ H1 { s1 with heap := h', toks := tk } := I1.kept hk
  refine ⟨.ref h'.objs.size, _, I2.laid (t' := tk) (fun c o e => Heap.get?_push_of_some _ e) (Nat.le_refl _) (xt_ok (its := acc.toList) ?_ (vals_rg hi) (Heap.get?_push_size _ ?_)), rfl, q _ (I2.hok.fresh (Nat.le_refl _))⟩
  · rw [rgV_length, sizeLine_eq]; omega
  · rfl
def rSlA (K : PySem.W.Frag) : V → Option Int → Option Int → Hp → VK → Prop := fun x lo hi H Q => ∃ a xs, x = .ref a ∧ L2.SqT K H a xs ∧
  (HT.sIx xs.length 0 lo = 0 ∧ HT.sIx xs.length xs.length hi = xs.length → Q (.ref a) H) ∧ (¬ (HT.sIx xs.length 0 lo = 0 ∧ HT.sIx xs.length xs.length hi = xs.length) → ∀ {its : List Value} p, H p = none → Q (.ref p) (upd H p (XT its (cutV xs lo hi))))
theorem sl_tupA : SlR X (rSlA X.K) := by
  intro pins s σ H x v vl vu lo hi sl Q I rx hs pl pu ⟨a, xs, ex, hx, q1, q2⟩
  subst ex
  cases rx
  obtain ⟨its, r, ht, hz⟩ := I.tuple hx
  have hlen : its.toArray.size = xs.length := by rw [List.size_toArray]; exact r.length.symm
  refine ⟨"tuple", _, PyProof.Rows.slot_tuple_getitem.lookup, ht.typeIs, ?_⟩
  by_cases hw : HT.sIx xs.length 0 lo = 0 ∧ HT.sIx xs.length xs.length hi = xs.length
  · exact getItem_tuple_whole ht hs pl pu (by rw [hlen]; exact hw) ⟨.ref a, H, I, rfl, q1 hw⟩
  · refine HT.getItem_tuple_cut ht hs pl pu (by rw [hlen]; exact hw) ?_ (by rw [hlen]; exact hz)
    rw [hlen]
    exact ⟨.ref s.heap.objs.size, _, I.laid (t' := s.toks) (fun b ob q => Heap.get?_push_of_some _ q) (Nat.le_refl _)
      (xt_ok (Nat.le_trans (cutV_length xs lo hi) hz) ((r.drop (HT.sIx xs.length 0 lo)).take (HT.sIx xs.length xs.length hi - HT.sIx xs.length 0 lo)) (Heap.get?_push_size _ rfl)), rfl, q2 hw _ (I.hok.fresh (Nat.le_refl _))⟩
def rCatA (K : PySem.W.Frag) : R2 := fun x y H Q => ∃ a b xs ys, x = .ref a ∧ y = .ref b ∧ L2.SqT K H a xs ∧ L2.SqT K H b ys ∧ xs.length + ys.length ≤ sizeLine ∧
  (xs = [] → Q (.ref b) H) ∧ (xs ≠ [] → ys = [] → Q (.ref a) H) ∧ (xs ≠ [] → ys ≠ [] → ∀ {its : List Value} p, H p = none → Q (.ref p) (upd H p (XT its (xs ++ ys))))
theorem op_catA : OpR X (binaryOp .Add) (rCatA X.K) := by
  intro pins s σ H x y v u Q I rx ry ⟨a, b, xs, ys, e1, e2, ha, hb, hz, q0, q1, q2⟩
  subst e1 e2
  cases rx
  cases ry
  obtain ⟨its, r1, p1, _⟩ := I.tuple ha
  obtain ⟨its2, r2, p2, _⟩ := I.tuple hb
  by_cases hx : xs = []
  · subst hx
    cases r1
    exact cat_tup0 p1 p2 ⟨.ref b, H, I, rfl, q0 rfl⟩
  · refine HT.cat_tup p1 p2 (fun z => hx (r1.nil_iff.mp z)) (fun z => ⟨.ref a, H, I, rfl, q1 hx (r2.nil_iff.mp z)⟩) (fun z => ?_) (by rw [← r1.length, ← r2.length]; exact hz)
    exact ⟨.ref s.heap.objs.size, _, I.laid (t' := s.toks) (fun b ob q => Heap.get?_push_of_some _ q) (Nat.le_refl _) (xt_ok (by rw [List.length_append]; exact hz) (r1.append r2) (Heap.get?_push_size _ rfl)), rfl,
      q2 hx (fun w => z (r2.nil_iff.mpr w)) _ (I.hok.fresh (Nat.le_refl _))⟩
end
end KW

set_option Elab.async false
set_option linter.all false
set_option maxRecDepth 100000
set_option maxHeartbeats 4000000
/-! Data by value: what a slot holds is told as plain data, heap-free. -/
namespace KW
open PySem PySem.Spec PyProof.Rows L2 Evl

abbrev D := PyData
abbrev tI (xs : List Int) : D := .tuple (xs.map .int)
abbrev lI (xs : List Int) : D := .list (xs.map .int)
def kvD (p : Int × Int) : D × D := (.int p.1, .int p.2)
def kvV (p : Int × Int) : Key × V := (Sum.inl p.1, V.int p.2)
def dI (kvs : List (Int × Int)) : D := .dict (kvs.map kvD)

mutual
def noL : D → Bool
  | .none => true
  | .bool _ => true
  | .int _ => true
  | .str _ => true
  | .list _ => false
  | .tuple xs => noLs xs
  | .dict _ => false
def noLs : List D → Bool
  | [] => true
  | x :: xs => noL x && noLs xs
end
theorem noLs_all : ∀ {xs : List D}, noLs xs = true ↔ ∀ x ∈ xs, noL x = true
  | [] => by simp [noLs]
  | x :: xs => by simp [noLs, noLs_all (xs := xs)]
theorem noLs_map {α : Type} {f : α → D} (xs : List α) (h : ∀ x, noL (f x) = true) : noLs (xs.map f) = true := by
  rw [noLs_all]
  intro x hx
  obtain ⟨a, _, rfl⟩ := List.mem_map.mp hx
  exact h a
theorem noL_tI (xs : List Int) : noL (tI xs) = true := noLs_map xs fun _ => rfl
theorem noLs_ints (xs : List Int) : noLs (xs.map PyData.int) = true := noLs_map xs fun _ => rfl

/-! ### the relation of values and data -/
section
variable {K : PySem.W.Frag} {H H' : Hp}
mutual
theorem Dp.map (ft : ∀ a xs, SqT K H a xs → SqT K H' a xs) (fl : ∀ a xs, SqL K H a xs → SqL K H' a xs) : ∀ (d : D) (v : V), Dp K H v d → Dp K H' v d
  | .none, _, h => by cases h; exact .non
  | .bool b, _, h => by cases h; exact .bl _
  | .int i, _, h => by cases h; exact .int _
  | .str x, _, h => by cases h; exact .str _
  | .list ds, _, h => by
    cases h with
    | lst hs ha => exact .lst (fl _ _ hs) (DpAll.map ft fl ds _ ha)
  | .tuple ds, _, h => by
    cases h with
    | tup hs ha => exact .tup (ft _ _ hs) (DpAll.map ft fl ds _ ha)
  | .dict _, _, h => by cases h
theorem DpAll.map (ft : ∀ a xs, SqT K H a xs → SqT K H' a xs) (fl : ∀ a xs, SqL K H a xs → SqL K H' a xs) : ∀ (ds : List D) (vs : List V), DpAll K H vs ds → DpAll K H' vs ds
  | [], _, h => by cases h; exact .nil
  | d :: ds, _, h => by
    cases h with
    | cons h1 h2 => exact .cons (Dp.map ft fl d _ h1) (DpAll.map ft fl ds _ h2)
end
mutual
theorem Dp.mapT (ft : ∀ a xs, SqT K H a xs → SqT K H' a xs) : ∀ (d : D) (v : V), noL d = true → Dp K H v d → Dp K H' v d
  | .none, _, _, h => by cases h; exact .non
  | .bool b, _, _, h => by cases h; exact .bl _
  | .int i, _, _, h => by cases h; exact .int _
  | .str x, _, _, h => by cases h; exact .str _
  | .list ds, _, n, h => by simp [noL] at n
  | .tuple ds, _, n, h => by
    cases h with
    | tup hs ha => exact .tup (ft _ _ hs) (DpAll.mapT ft ds _ (by simpa [noL] using n) ha)
  | .dict _, _, _, h => by cases h
theorem DpAll.mapT (ft : ∀ a xs, SqT K H a xs → SqT K H' a xs) : ∀ (ds : List D) (vs : List V), noLs ds = true → DpAll K H vs ds → DpAll K H' vs ds
  | [], _, _, h => by cases h; exact .nil
  | d :: ds, _, n, h => by
    cases h with
    | cons h1 h2 =>
      simp only [noLs, Bool.and_eq_true] at n
      exact .cons (Dp.mapT ft d _ n.1 h1) (DpAll.mapT ft ds _ n.2 h2)
end
theorem Dp.mono {v : V} {d : D} (e : Ex H H') (h : Dp K H v d) : Dp K H' v d := Dp.map (fun _ _ => ex_t e) (fun _ _ => ex_l e) d v h
theorem DpAll.mono {vs : List V} {ds : List D} (e : Ex H H') (h : DpAll K H vs ds) : DpAll K H' vs ds := DpAll.map (fun _ _ => ex_t e) (fun _ _ => ex_l e) ds vs h
theorem DpAll.length : ∀ {vs : List V} {ds : List D}, DpAll K H vs ds → vs.length = ds.length
  | _, [], .nil => rfl
  | _, _ :: _, .cons _ h => by simp [DpAll.length h]
theorem DpAll.get : ∀ {vs : List V} {ds : List D} {j : Nat} {d : D}, DpAll K H vs ds → ds[j]? = some d → ∃ v, vs[j]? = some v ∧ Dp K H v d
  | _, [], j, d, .nil, e => by simp at e
  | _, _ :: _, 0, d, .cons h _, e => by simp at e; subst e; exact ⟨_, rfl, h⟩
  | _, _ :: _, j + 1, d, .cons _ h, e => by
    obtain ⟨v, h1, h2⟩ := DpAll.get (j := j) (d := d) h (by simpa using e)
    exact ⟨v, by simpa using h1, h2⟩
theorem DpAll.get' {vs : List V} {ds : List D} {j : Nat} {v : V} (h : DpAll K H vs ds) (e : vs[j]? = some v) : ∃ d, ds[j]? = some d ∧ Dp K H v d := by
  have hl := DpAll.length h
  obtain ⟨hj, _⟩ := List.getElem?_eq_some_iff.mp e
  have hj' : j < ds.length := by omega
  obtain ⟨v', h1, h2⟩ := DpAll.get (j := j) (d := ds[j]) h (List.getElem?_eq_getElem hj')
  rw [e] at h1
  cases h1
  exact ⟨_, List.getElem?_eq_getElem hj', h2⟩
theorem DpAll.append : ∀ {vs ws : List V} {ds es : List D}, DpAll K H vs ds → DpAll K H ws es → DpAll K H (vs ++ ws) (ds ++ es)
  | _, _, [], _, .nil, h => h
  | _, _, _ :: _, _, .cons a b, h => .cons a (DpAll.append b h)
theorem DpAll.set : ∀ {vs : List V} {ds : List D} (j : Nat) {v : V} {d : D}, DpAll K H vs ds → Dp K H v d → DpAll K H (vs.set j v) (ds.set j d)
  | _, [], _, _, _, .nil, _ => .nil
  | _, _ :: _, 0, _, _, .cons _ b, h => .cons h b
  | _, _ :: _, j + 1, _, _, .cons a b, h => .cons a (DpAll.set j b h)
theorem DpAll.drop : ∀ {vs : List V} {ds : List D} (n : Nat), DpAll K H vs ds → DpAll K H (vs.drop n) (ds.drop n)
  | _, _, 0, h => h
  | _, [], _ + 1, .nil => .nil
  | _, _ :: _, n + 1, .cons _ b => DpAll.drop n b
theorem DpAll.take : ∀ {vs : List V} {ds : List D} (n : Nat), DpAll K H vs ds → DpAll K H (vs.take n) (ds.take n)
  | _, _, 0, h => .nil
  | _, [], _ + 1, .nil => .nil
  | _, _ :: _, n + 1, .cons a b => .cons a (DpAll.take n b)
theorem DpAll.reverse {vs : List V} {ds : List D} (h : DpAll K H vs ds) : DpAll K H vs.reverse ds.reverse := by
  induction ds generalizing vs with
  | nil => cases h; exact .nil
  | cons d ds ih =>
    cases h with
    | cons a b =>
      rw [List.reverse_cons, List.reverse_cons]
      exact DpAll.append (ih b) (.cons a .nil)
theorem DpAll.rep {vs : List V} {ds : List D} (h : DpAll K H vs ds) : ∀ k : Nat, DpAll K H (List.replicate k vs).flatten (List.replicate k ds).flatten
  | 0 => .nil
  | k + 1 => by
    rw [List.replicate_succ, List.replicate_succ, List.flatten_cons, List.flatten_cons]
    exact DpAll.append h (DpAll.rep h k)
theorem DpAll.ints : ∀ {vs : List V} {ns : List Int}, DpAll K H vs (ns.map PyData.int) → vs = ns.map V.int
  | _, [], .nil => rfl
  | _, n :: ns, .cons a b => by
    cases a
    rw [DpAll.ints b]
    rfl
theorem DpAll.of_ints : ∀ ns : List Int, DpAll K H (ns.map V.int) (ns.map PyData.int)
  | [] => .nil
  | _ :: ns => .cons (.int _) (DpAll.of_ints ns)
theorem DpAll.bls : ∀ {vs : List V} {ns : List Bool}, DpAll K H vs (ns.map PyData.bool) → vs = ns.map V.bl
  | _, [], .nil => rfl
  | _, n :: ns, .cons a b => by
    cases a
    rw [DpAll.bls b]
    rfl

def Rp (K : PySem.W.Frag) (H : Hp) (v : V) (d : D) : Prop := Dp K H v d ∨ ∃ a kvs, v = .ref a ∧ d = dI kvs ∧ H a = some (.dK (kvs.map kvV))
theorem Rp.mono {v : V} {d : D} (e : Ex H H') (h : Rp K H v d) : Rp K H' v d := by
  rcases h with h | ⟨a, kvs, h1, h2, h3⟩
  · exact .inl (Dp.mono e h)
  · exact .inr ⟨a, kvs, h1, h2, e _ _ h3⟩
def isDict : D → Bool
  | .dict _ => true
  | _ => false
theorem Rp.dp {v : V} {d : D} (h : Rp K H v d) (n : isDict d = false) : Dp K H v d := by
  rcases h with h | ⟨a, kvs, h1, h2, h3⟩
  · exact h
  · subst h2
    simp [dI, isDict] at n
theorem Rp.int {v : V} {i : Int} (h : Rp K H v (.int i)) : v = .int i := by cases h.dp rfl; rfl
theorem Rp.bool {v : V} {i : Bool} (h : Rp K H v (.bool i)) : v = .bl i := by cases h.dp rfl; rfl
theorem Rp.str {v : V} {i : Str} (h : Rp K H v (.str i)) : v = .str i := by cases h.dp rfl; rfl
theorem Rp.none {v : V} (h : Rp K H v .none) : v = .non := by cases h.dp rfl; rfl
theorem Rp.tup {v : V} {ds : List D} (h : Rp K H v (.tuple ds)) : ∃ a vs, v = .ref a ∧ SqT K H a vs ∧ DpAll K H vs ds := by
  have h := h.dp rfl
  cases h with
  | tup a b => exact ⟨_, _, rfl, a, b⟩
theorem Rp.lst {v : V} {ds : List D} (h : Rp K H v (.list ds)) : ∃ a vs, v = .ref a ∧ SqL K H a vs ∧ DpAll K H vs ds := by
  have h := h.dp rfl
  cases h with
  | lst a b => exact ⟨_, _, rfl, a, b⟩
theorem kvD_inj {a b : List (Int × Int)} (h : a.map kvD = b.map kvD) : a = b := by
  induction a generalizing b with
  | nil => cases b with
    | nil => rfl
    | cons _ _ => simp at h
  | cons x xs ih => cases b with
    | nil => simp at h
    | cons y ys =>
      simp only [List.map_cons, List.cons.injEq, kvD, Prod.mk.injEq, PyData.int.injEq] at h
      obtain ⟨⟨h1, h2⟩, h3⟩ := h
      rw [ih h3]
      obtain ⟨x1, x2⟩ := x
      obtain ⟨y1, y2⟩ := y
      simp only at h1 h2
      rw [h1, h2]
theorem Rp.dict {v : V} {kvs : List (Int × Int)} (h : Rp K H v (dI kvs)) : ∃ a, v = .ref a ∧ H a = some (.dK (kvs.map kvV)) := by
  rcases h with h | ⟨a, kvs', h1, h2, h3⟩
  · cases h
  · have e := kvD_inj (PyData.dict.inj h2)
    subst e
    exact ⟨a, h1, h3⟩
theorem Rp.mapT (ft : ∀ a xs, SqT K H a xs → SqT K H' a xs) {v : V} {d : D} (n : noL d = true) (h : Rp K H v d) : Rp K H' v d :=
  .inl (Dp.mapT ft d v n (h.dp (by cases d <;> first | rfl | simp [noL] at n)))
abbrev RpAll (K : PySem.W.Frag) (H : Hp) : List V → List D → Prop := Paired (Rp K H)
theorem RpAll.mono : ∀ {vs : List V} {ds : List D}, Ex H H' → RpAll K H vs ds → RpAll K H' vs ds
  | _, _, _, .nil => .nil
  | _, _, e, .cons a b => .cons (a.mono e) (RpAll.mono e b)
theorem DpAll.rp : ∀ {vs : List V} {ds : List D}, DpAll K H vs ds → RpAll K H vs ds
  | _, [], .nil => .nil
  | _, _ :: _, .cons a b => .cons (.inl a) (DpAll.rp b)
def noDs (ds : List D) : Bool := ds.all fun d => !isDict d
theorem RpAll.dp : ∀ {vs : List V} {ds : List D}, noDs ds = true → RpAll K H vs ds → DpAll K H vs ds
  | _, _, _, .nil => .nil
  | _, d :: ds, n, .cons a b => by
    simp only [noDs, List.all_cons, Bool.and_eq_true, Bool.not_eq_true'] at n
    exact .cons (a.dp n.1) (RpAll.dp (by simpa [noDs] using n.2) b)
end

/-! ### slots by data -/
abbrev G := List (Option D)
def EnvOk (K : PySem.W.Frag) (H : Hp) (σ : L2.St) (Γ : G) : Prop := Γ.length = σ.length ∧ ∀ (i : Nat) (d : D), Γ[i]? = some (some d) → ∃ v, σ[i]? = some (some v) ∧ Rp K H v d
theorem EnvOk.mono {K : PySem.W.Frag} {H H' : Hp} {σ : L2.St} {Γ : G} (e : Ex H H') (h : EnvOk K H σ Γ) : EnvOk K H' σ Γ := ⟨h.1, fun i d q => let ⟨v, a, b⟩ := h.2 i d q; ⟨v, a, b.mono e⟩⟩
theorem EnvOk.set {K : PySem.W.Frag} {H : Hp} {σ : L2.St} {Γ : G} {j : Nat} {v : V} {d : D} (h : EnvOk K H σ Γ) (r : Rp K H v d) : EnvOk K H (σ.set j (some v)) (Γ.set j (some d)) := by
  refine ⟨by simp [h.1], fun i e q => ?_⟩
  by_cases hij : j = i
  · subst hij
    by_cases hj : j < Γ.length
    · rw [List.getElem?_set_self hj] at q
      cases q
      exact ⟨v, by rw [List.getElem?_set_self (by rw [← h.1]; exact hj)], r⟩
    · rw [List.getElem?_eq_none (by simpa using hj)] at q
      cases q
  · rw [List.getElem?_set_ne hij] at q
    rw [List.getElem?_set_ne hij]
    exact h.2 i e q
def wipeG (Γ : G) : List Nat → G
  | [] => Γ
  | v :: vs => (wipeG Γ vs).set v none
theorem wipeG_length (Γ : G) : ∀ vs : List Nat, (wipeG Γ vs).length = Γ.length
  | [] => rfl
  | v :: vs => by unfold wipeG; rw [List.length_set, wipeG_length Γ vs]
theorem wipe_get {σ : L2.St} {i : Nat} : ∀ {vs : List Nat}, i ∉ vs → (wipe σ vs)[i]? = σ[i]?
  | [], _ => rfl
  | v :: vs, h => by
    simp only [List.mem_cons, not_or] at h
    unfold wipe
    rw [List.getElem?_set_ne (Ne.symm h.1)]
    exact wipe_get h.2
theorem wipeG_some {Γ : G} {i : Nat} {d : D} : ∀ {vs : List Nat}, (wipeG Γ vs)[i]? = some (some d) → Γ[i]? = some (some d) ∧ i ∉ vs
  | [], h => ⟨h, by simp⟩
  | v :: vs, h => by
    unfold wipeG at h
    by_cases hi : v = i
    · subst hi
      by_cases hv : v < (wipeG Γ vs).length
      · rw [List.getElem?_set_self hv] at h; cases h
      · rw [List.getElem?_eq_none (by simpa using hv)] at h; cases h
    · rw [List.getElem?_set_ne hi] at h
      obtain ⟨h1, h2⟩ := wipeG_some h
      exact ⟨h1, by simp only [List.mem_cons, not_or]; exact ⟨fun e => hi e.symm, h2⟩⟩
theorem EnvOk.wipe {K : PySem.W.Frag} {H : Hp} {σ : L2.St} {Γ : G} (vs : List Nat) (h : EnvOk K H σ Γ) : EnvOk K H (wipe σ vs) (wipeG Γ vs) := by
  refine ⟨by rw [wipe_length, wipeG_length]; exact h.1, fun i d q => ?_⟩
  obtain ⟨q1, q2⟩ := wipeG_some q
  obtain ⟨v, a, b⟩ := h.2 i d q1
  exact ⟨v, by rw [wipe_get q2]; exact a, b⟩
theorem wipe_mem {σ : L2.St} {i : Nat} : ∀ {vs : List Nat}, i ∈ vs → i < σ.length → (wipe σ vs)[i]? = some none
  | v :: vs, h, hl => by
    unfold wipe
    by_cases hi : v = i
    · subst hi
      rw [List.getElem?_set_self (by rw [wipe_length]; exact hl)]
    · rw [List.getElem?_set_ne hi]
      rcases List.mem_cons.mp h with e | e
      · exact absurd e.symm hi
      · exact wipe_mem e hl
/-- what agrees outside of vs is wiped to the same -/
theorem wipe_eq {σ τ : L2.St} {vs : List Nat} (hl : τ.length = σ.length) (h : ∀ i : Nat, i ∉ vs → τ[i]? = σ[i]?) : wipe τ vs = wipe σ vs := by
  apply List.ext_getElem?
  intro i
  by_cases hi : i ∈ vs
  · by_cases hb : i < σ.length
    · rw [wipe_mem hi hb, wipe_mem hi (by rw [hl]; exact hb)]
    · rw [List.getElem?_eq_none (by rw [wipe_length, hl]; omega), List.getElem?_eq_none (by rw [wipe_length]; omega)]
  · rw [wipe_get hi, wipe_get hi, h i hi]

/-! ### what evaluates to what data -/
section
variable (K : PySem.W.Frag)
def EvR (te : TE) (Γ : G) (d : D) : Prop := ∀ σ H, EnvOk K H σ Γ → ∀ Q : VK, (∀ v H', Ex H H' → Rp K H' v d → Q v H') → te σ H Q
/-- a new list -/
def EvF (te : TE) (Γ : G) (ds : List D) : Prop := ∀ σ H, EnvOk K H σ Γ → ∀ Q : VK, (∀ p vs H', H p = none → Ex H H' → H' p = some (.lst vs) → DpAll K H' vs ds → Q (.ref p) H') → te σ H Q
/-- a new dict of ints by ints -/
def EvD (te : TE) (Γ : G) (kvs : List (Int × Int)) : Prop := ∀ σ H, EnvOk K H σ Γ → ∀ Q : VK, (∀ p H', H p = none → Ex H H' → H' p = some (.dK (kvs.map kvV)) → Q (.ref p) H') → te σ H Q
def EvB (tt : TT) (Γ : G) (b : Bool) : Prop := ∀ σ H, EnvOk K H σ Γ → ∀ Q : Bool → Hp → Prop, (∀ H', Ex H H' → Q b H') → tt σ H Q
def EvAs (ta : TA) (Γ : G) (ds : List D) : Prop := ∀ σ H, EnvOk K H σ Γ → ∀ Q : List V → Hp → Prop, (∀ vs H', Ex H H' → RpAll K H' vs ds → Q vs H') → ta σ H Q
def EvP (to : TO) (Γ : G) (o : Option Int) : Prop := ∀ σ H, EnvOk K H σ Γ → ∀ Q : Option Int → Hp → Prop, (∀ H', Ex H H' → Q o H') → to σ H Q
end
section
variable {K : PySem.W.Frag} {Γ : G} {ta tb tc te : TE} {t u : TT} {d e f : D} {b c : Bool} {i j : Int}
theorem EvF.r {ds : List D} (h : EvF K te Γ ds) : EvR K te Γ (.list ds) := fun σ H E Q q => h σ H E Q fun p vs H' _ e2 e3 e4 => q _ H' e2 (.inl (.lst (sq_of e3) e4))
theorem EvD.r {kvs : List (Int × Int)} (h : EvD K te Γ kvs) : EvR K te Γ (dI kvs) := fun σ H E Q q => h σ H E Q fun p H' _ e2 e3 => q _ H' e2 (.inr ⟨p, kvs, rfl, rfl, e3⟩)
theorem EvR.to (h : EvR K te Γ d) (q : d = e) : EvR K te Γ e := q ▸ h
theorem EvB.to (h : EvB K t Γ b) (q : b = c) : EvB K t Γ c := q ▸ h
theorem EvF.to {ds es : List D} (h : EvF K te Γ ds) (q : ds = es) : EvF K te Γ es := q ▸ h
theorem ev_var {i : Nat} (h : Γ[i]? = some (some d)) : EvR K (tVar i) Γ d := fun σ H E Q q => let ⟨v, a, r⟩ := E.2 i d h; ⟨v, a, q v H (Ex.refl H) r⟩
theorem ev_int : EvR K (tC (.int i)) Γ (.int i) := fun σ H E Q q => q _ H (Ex.refl H) (.inl (.int i))
theorem ev_bool : EvR K (tC (.bl b)) Γ (.bool b) := fun σ H E Q q => q _ H (Ex.refl H) (.inl (.bl b))
theorem ev_str {x : Str} : EvR K (tC (.str x)) Γ (.str x) := fun σ H E Q q => q _ H (Ex.refl H) (.inl (.str x))
theorem ev_none : EvR K (tC .non) Γ .none := fun σ H E Q q => q _ H (Ex.refl H) (.inl .non)
/-- two places, by values -/
theorem ev_op {r : R2} (ha : EvR K ta Γ d) (hb : EvR K tb Γ e) (hr : ∀ x y H, Rp K H x d → Rp K H y e → ∀ Q : VK, (∀ v H', Ex H H' → Rp K H' v f → Q v H') → r x y H Q) : EvR K (tOp r ta tb) Γ f := fun σ H E Q q =>
  ha σ H E _ fun x H1 e1 r1 => hb σ H1 (E.mono e1) _ fun y H2 e2 r2 => hr x y H2 (r1.mono e2) r2 Q fun v H' e3 r3 => q v H' ((e1.trans e2).trans e3) r3
theorem ef_op {r : R2} {ds : List D} (ha : EvR K ta Γ d) (hb : EvR K tb Γ e) (hr : ∀ x y H, Rp K H x d → Rp K H y e → ∀ Q : VK, (∀ p vs H', H p = none → Ex H H' → H' p = some (.lst vs) → DpAll K H' vs ds → Q (.ref p) H') → r x y H Q) : EvF K (tOp r ta tb) Γ ds := fun σ H E Q q =>
  ha σ H E _ fun x H1 e1 r1 => hb σ H1 (E.mono e1) _ fun y H2 e2 r2 => hr x y H2 (r1.mono e2) r2 Q fun p vs H' n e3 h3 r3 => q p vs H' (fresh_back (e1.trans e2) n) ((e1.trans e2).trans e3) h3 r3
def VD : V → D
  | .non => .none
  | .bl b => .bool b
  | .int i => .int i
  | .str x => .str x
  | _ => .none
def flatVD : V → Bool
  | .non => true
  | .bl b => true
  | .int i => true
  | .str x => true
  | _ => false
theorem rp_VD {H : Hp} : ∀ {v : V}, flatVD v = true → Rp K H v (VD v)
  | .non, _ => .inl .non
  | .bl b, _ => .inl (.bl b)
  | .int i, _ => .inl (.int i)
  | .str x, _ => .inl (.str x)
theorem ev_I0 {g : Int → Int → V} (ha : EvR K ta Γ (.int i)) (hb : EvR K tb Γ (.int j)) (hf : flatVD (g i j) = true) : EvR K (tOp (rI0 g) ta tb) Γ (VD (g i j)) :=
  ev_op ha hb fun x y H r1 r2 Q q => ⟨i, j, r1.int, r2.int, q _ H (Ex.refl H) (rp_VD hf)⟩
theorem ev_I {C : Int → Int → Prop} {g : Int → Int → V} (ha : EvR K ta Γ (.int i)) (hb : EvR K tb Γ (.int j)) (hf : flatVD (g i j) = true) (hc : C i j) : EvR K (tOp (rI C g) ta tb) Γ (VD (g i j)) :=
  ev_op ha hb fun x y H r1 r2 Q q => ⟨i, j, r1.int, r2.int, hc, q _ H (Ex.refl H) (rp_VD hf)⟩
theorem ev_add (ha : EvR K ta Γ (.int i)) (hb : EvR K tb Γ (.int j)) : EvR K (tOp (rI0 fun i j => .int (i + j)) ta tb) Γ (.int (i + j)) := ev_I0 ha hb rfl
theorem ev_sub (ha : EvR K ta Γ (.int i)) (hb : EvR K tb Γ (.int j)) : EvR K (tOp (rI0 fun i j => .int (i - j)) ta tb) Γ (.int (i - j)) := ev_I0 ha hb rfl
theorem ev_lt (ha : EvR K ta Γ (.int i)) (hb : EvR K tb Γ (.int j)) : EvR K (tOp (rI0 fun i j => .bl (decide (i < j))) ta tb) Γ (.bool (decide (i < j))) := ev_I0 ha hb rfl
theorem ev_le (ha : EvR K ta Γ (.int i)) (hb : EvR K tb Γ (.int j)) : EvR K (tOp (rI0 fun i j => .bl (decide (i ≤ j))) ta tb) Γ (.bool (decide (i ≤ j))) := ev_I0 ha hb rfl
theorem ev_gt (ha : EvR K ta Γ (.int i)) (hb : EvR K tb Γ (.int j)) : EvR K (tOp (rI0 fun i j => .bl (decide (j < i))) ta tb) Γ (.bool (decide (j < i))) := ev_I0 ha hb rfl
theorem ev_ge (ha : EvR K ta Γ (.int i)) (hb : EvR K tb Γ (.int j)) : EvR K (tOp (rI0 fun i j => .bl (decide (j ≤ i))) ta tb) Γ (.bool (decide (j ≤ i))) := ev_I0 ha hb rfl
theorem ev_mul (ha : EvR K ta Γ (.int i)) (hb : EvR K tb Γ (.int j)) (hc : CMul i j) : EvR K (tOp (rI CMul fun i j => .int (i * j)) ta tb) Γ (.int (i * j)) := ev_I ha hb rfl hc
theorem ev_mod (ha : EvR K ta Γ (.int i)) (hb : EvR K tb Γ (.int j)) (hc : 0 < j) : EvR K (tOp (rI (fun _ j => 0 < j) fun i j => .int (i % j)) ta tb) Γ (.int (i % j)) := ev_I ha hb rfl hc
theorem ev_fdiv (ha : EvR K ta Γ (.int i)) (hb : EvR K tb Γ (.int j)) (hc : CDiv i j) : EvR K (tOp (rI CDiv fun i j => .int (i / j)) ta tb) Γ (.int (i / j)) := ev_I ha hb rfl hc
theorem ev_pow (ha : EvR K ta Γ (.int i)) (hb : EvR K tb Γ (.int j)) (hc : CPow i j) : EvR K (tOp (rI CPow fun i j => .int (i ^ j.toNat)) ta tb) Γ (.int (i ^ j.toNat)) := ev_I ha hb rfl hc
theorem ev_eqI (ha : EvR K ta Γ (.int i)) (hb : EvR K tb Γ (.int j)) : EvR K (tOp rEq ta tb) Γ (.bool (decide (i = j))) :=
  ev_op ha hb fun x y H r1 r2 Q q => by
    rw [r1.int, r2.int]
    refine ⟨rfl, q _ H (Ex.refl H) (.inl ?_)⟩
    rw [show decide (V.int i = V.int j) = decide (i = j) by simp]
    exact .bl _
theorem ev_neI (ha : EvR K ta Γ (.int i)) (hb : EvR K tb Γ (.int j)) : EvR K (tOp rNe ta tb) Γ (.bool (!decide (i = j))) :=
  ev_op ha hb fun x y H r1 r2 Q q => by
    rw [r1.int, r2.int]
    refine ⟨rfl, q _ H (Ex.refl H) (.inl ?_)⟩
    rw [show decide (V.int i = V.int j) = decide (i = j) by simp]
    exact .bl _
theorem ev_eqS {x y : Str} (ha : EvR K ta Γ (.str x)) (hb : EvR K tb Γ (.str y)) : EvR K (tOp rEq ta tb) Γ (.bool (decide (x = y))) :=
  ev_op ha hb fun x' y' H r1 r2 Q q => by
    rw [r1.str, r2.str]
    refine ⟨rfl, q _ H (Ex.refl H) (.inl ?_)⟩
    rw [show decide (V.str x = V.str y) = decide (x = y) by simp]
    exact .bl _
theorem ev_neS {x y : Str} (ha : EvR K ta Γ (.str x)) (hb : EvR K tb Γ (.str y)) : EvR K (tOp rNe ta tb) Γ (.bool (!decide (x = y))) :=
  ev_op ha hb fun x' y' H r1 r2 Q q => by
    rw [r1.str, r2.str]
    refine ⟨rfl, q _ H (Ex.refl H) (.inl ?_)⟩
    rw [show decide (V.str x = V.str y) = decide (x = y) by simp]
    exact .bl _
theorem ev_eqB {x y : Bool} (ha : EvR K ta Γ (.bool x)) (hb : EvR K tb Γ (.bool y)) : EvR K (tOp rEq ta tb) Γ (.bool (decide (x = y))) :=
  ev_op ha hb fun x' y' H r1 r2 Q q => by
    rw [r1.bool, r2.bool]
    refine ⟨rfl, q _ H (Ex.refl H) (.inl ?_)⟩
    rw [show decide (V.bl x = V.bl y) = decide (x = y) by simp]
    exact .bl _
theorem ev_neB {x y : Bool} (ha : EvR K ta Γ (.bool x)) (hb : EvR K tb Γ (.bool y)) : EvR K (tOp rNe ta tb) Γ (.bool (!decide (x = y))) :=
  ev_op ha hb fun x' y' H r1 r2 Q q => by
    rw [r1.bool, r2.bool]
    refine ⟨rfl, q _ H (Ex.refl H) (.inl ?_)⟩
    rw [show decide (V.bl x = V.bl y) = decide (x = y) by simp]
    exact .bl _
/-- == of data -/
theorem ev_eqD (ha : EvR K ta Γ d) (hb : EvR K tb Γ e) (nd : isDict d = false) (ne : isDict e = false) (sd : SeqAt.shaped d = true) (se : SeqAt.shaped e = true) : EvR K (tOp (rEqD K) ta tb) Γ (.bool (PyData.eqv d e)) :=
  ev_op ha hb fun x y H r1 r2 Q q => ⟨d, e, r1.dp nd, r2.dp ne, sd, se, q _ H (Ex.refl H) (.inl (.bl _))⟩
theorem ev_neD (ha : EvR K ta Γ d) (hb : EvR K tb Γ e) (nd : isDict d = false) (ne : isDict e = false) (sd : SeqAt.shaped d = true) (se : SeqAt.shaped e = true) : EvR K (tOp (rNeD K) ta tb) Γ (.bool (!PyData.eqv d e)) :=
  ev_op ha hb fun x y H r1 r2 Q q => ⟨d, e, r1.dp nd, r2.dp ne, sd, se, q _ H (Ex.refl H) (.inl (.bl _))⟩
theorem DpAll.atI {H : Hp} {vs : List V} {ds : List D} {k : Int} (h : DpAll K H vs ds) (a : atI ds k = some d) : ∃ v, L2.atI vs k = some v ∧ Dp K H v d := by
  unfold L2.atI at a ⊢
  rw [DpAll.length h]
  cases q : ixN ds.length k with
  | none => rw [q] at a; cases a
  | some m =>
    rw [q] at a
    exact DpAll.get h a
theorem ev_ixT {ds : List D} (ha : EvR K ta Γ (.tuple ds)) (hb : EvR K tb Γ (.int i)) (h : atI ds i = some d) : EvR K (tOp (rIxT K) ta tb) Γ d :=
  ev_op ha hb fun x y H r1 r2 Q q => by
    obtain ⟨a, vs, rfl, hs, hd⟩ := r1.tup
    obtain ⟨v, h1, h2⟩ := DpAll.atI hd h
    exact ⟨a, vs, i, v, rfl, r2.int, hs, h1, q v H (Ex.refl H) (.inl h2)⟩
theorem ev_ixL {ds : List D} (ha : EvR K ta Γ (.list ds)) (hb : EvR K tb Γ (.int i)) (h : atI ds i = some d) : EvR K (tOp (rIxL K) ta tb) Γ d :=
  ev_op ha hb fun x y H r1 r2 Q q => by
    obtain ⟨a, vs, rfl, hs, hd⟩ := r1.lst
    obtain ⟨v, h1, h2⟩ := DpAll.atI hd h
    exact ⟨a, vs, i, v, rfl, r2.int, hs, h1, q v H (Ex.refl H) (.inl h2)⟩
theorem ev_neg (ha : EvR K ta Γ (.int i)) : EvR K (tUn (rU fun i => .int (-i)) ta) Γ (.int (-i)) := fun σ H E Q q => ha σ H E _ fun v H1 e1 r1 => ⟨i, r1.int, q _ H1 e1 (.inl (.int _))⟩
/-! tests -/
theorem eb_test (h : EvR K te Γ (.bool b)) : EvB K (tTest te) Γ b := fun σ H E Q q => h σ H E _ fun v H1 e1 r1 => ⟨b, r1.bool, q H1 e1⟩
theorem eb_B (h : EvR K te Γ (.bool b)) : EvB K (tB te) Γ b := fun σ H E Q q => h σ H E _ fun v H1 e1 r1 => ⟨b, r1.bool, q H1 e1⟩
theorem eb_and (h1 : EvB K t Γ b) (h2 : b = true → EvB K u Γ c) : EvB K (tAnd t u) Γ (b && c) := fun σ H E Q q => h1 σ H E _ fun H1 e1 => by
  cases b with
  | true =>
    show u σ H1 Q
    exact h2 rfl σ H1 (E.mono e1) Q fun H2 e2 => q H2 (e1.trans e2)
  | false =>
    show Q false H1
    exact q H1 e1
theorem eb_or (h1 : EvB K t Γ b) (h2 : b = false → EvB K u Γ c) : EvB K (tOr t u) Γ (b || c) := fun σ H E Q q => h1 σ H E _ fun H1 e1 => by
  cases b with
  | true =>
    show Q true H1
    exact q H1 e1
  | false =>
    show u σ H1 Q
    exact h2 rfl σ H1 (E.mono e1) Q fun H2 e2 => q H2 (e1.trans e2)
theorem eb_not (h : EvB K t Γ b) : EvB K (tNot t) Γ (!b) := fun σ H E Q q => h σ H E _ fun H1 e1 => q H1 e1
theorem ev_and (h1 : EvR K ta Γ (.bool b)) (h2 : b = true → EvR K tb Γ (.bool c)) : EvR K (tAndV ta tb) Γ (.bool (b && c)) := fun σ H E Q q => h1 σ H E _ fun v H1 e1 r1 => ⟨b, r1.bool, by
  cases b with
  | true =>
    show tb σ H1 Q
    exact h2 rfl σ H1 (E.mono e1) Q fun v H2 e2 r2 => q v H2 (e1.trans e2) r2
  | false =>
    show Q (.bl false) H1
    exact q _ H1 e1 (.inl (.bl _))⟩
theorem ev_or (h1 : EvR K ta Γ (.bool b)) (h2 : b = false → EvR K tb Γ (.bool c)) : EvR K (tOrV ta tb) Γ (.bool (b || c)) := fun σ H E Q q => h1 σ H E _ fun v H1 e1 r1 => ⟨b, r1.bool, by
  cases b with
  | true =>
    show Q (.bl true) H1
    exact q _ H1 e1 (.inl (.bl _))
  | false =>
    show tb σ H1 Q
    exact h2 rfl σ H1 (E.mono e1) Q fun v H2 e2 r2 => q v H2 (e1.trans e2) r2⟩
theorem ev_not (h1 : EvR K ta Γ (.bool b)) : EvR K (tNotV ta) Γ (.bool (!b)) := fun σ H E Q q => h1 σ H E _ fun v H1 e1 r1 => ⟨b, r1.bool, q _ H1 e1 (.inl (.bl _))⟩
theorem ev_if (h : EvB K t Γ b) (h1 : b = true → EvR K ta Γ d) (h2 : b = false → EvR K tb Γ d) : EvR K (tIf t ta tb) Γ d := fun σ H E Q q => h σ H E _ fun H1 e1 => by
  cases b with
  | true =>
    show ta σ H1 Q
    exact h1 rfl σ H1 (E.mono e1) Q fun v H2 e2 r2 => q v H2 (e1.trans e2) r2
  | false =>
    show tb σ H1 Q
    exact h2 rfl σ H1 (E.mono e1) Q fun v H2 e2 r2 => q v H2 (e1.trans e2) r2
theorem ev_ite (h : EvB K t Γ b) (h1 : b = true → EvR K ta Γ d) (h2 : b = false → EvR K tb Γ e) : EvR K (tIf t ta tb) Γ (if b then d else e) :=
  ev_if h (fun z => by rw [if_pos z]; exact h1 z) (fun z => by rw [if_neg (by rw [z]; decide)]; exact h2 z)
theorem ef_ite {ds es : List D} (h : EvB K t Γ b) (h1 : b = true → EvF K ta Γ ds) (h2 : b = false → EvF K tb Γ es) : EvF K (tIf t ta tb) Γ (if b then ds else es) := fun σ H E Q q => h σ H E _ fun H1 e1 => by
  cases b with
  | true =>
    show ta σ H1 Q
    exact h1 rfl σ H1 (E.mono e1) Q fun p vs H2 n e2 h2 r2 => q p vs H2 (fresh_back e1 n) (e1.trans e2) h2 r2
  | false =>
    show tb σ H1 Q
    exact h2 rfl σ H1 (E.mono e1) Q fun p vs H2 n e2 h2 r2 => q p vs H2 (fresh_back e1 n) (e1.trans e2) h2 r2
/-! arguments, displays, calls -/
theorem eas_nil : EvAs K tNil Γ [] := fun σ H E Q q => q [] H (Ex.refl H) .nil
theorem eas_cons {tr : TA} {ds : List D} (h : EvR K ta Γ d) (hr : EvAs K tr Γ ds) : EvAs K (tCons ta tr) Γ (d :: ds) := fun σ H E Q q =>
  h σ H E _ fun v H1 e1 r1 => hr σ H1 (E.mono e1) _ fun vs H2 e2 r2 => q _ H2 (e1.trans e2) (.cons (r1.mono e2) r2)
theorem ev_tup {ta : TA} {ds : List D} (h : EvAs K ta Γ ds) (n : noDs ds = true) (hl : ds.length ≤ 100000) : EvR K (tTup ta) Γ (.tuple ds) := fun σ H E Q q =>
  h σ H E _ fun vs H1 e1 r1 => ⟨sz_of (by rw [Paired.length r1]; exact hl), fun p hp => q _ _ (e1.trans (Ex.new hp)) (.inl (.tup (st_of upd_same) (DpAll.mono (Ex.new hp) (RpAll.dp n r1))))⟩
theorem ef_lst {ta : TA} {ds : List D} (h : EvAs K ta Γ ds) (n : noDs ds = true) (hl : ds.length ≤ 100000) : EvF K (tLst ta) Γ ds := fun σ H E Q q =>
  h σ H E _ fun vs H1 e1 r1 => ⟨sz_of (by rw [Paired.length r1]; exact hl), fun p hp => q p vs _ (fresh_back e1 hp) (e1.trans (Ex.new hp)) upd_same (DpAll.mono (Ex.new hp) (RpAll.dp n r1))⟩
/-- a built-in's call, by values -/
theorem ev_cb {r : List V → Hp → VK → Prop} {ta : TA} {ds : List D} (h : EvAs K ta Γ ds) (hr : ∀ vs H, RpAll K H vs ds → ∀ Q : VK, (∀ v H', Ex H H' → Rp K H' v d → Q v H') → r vs H Q) : EvR K (tCB r ta) Γ d := fun σ H E Q q =>
  h σ H E _ fun vs H1 e1 r1 => hr vs H1 r1 Q fun v H' e2 r2 => q v H' (e1.trans e2) r2
theorem ef_cb {r : List V → Hp → VK → Prop} {ta : TA} {ds es : List D} (h : EvAs K ta Γ ds) (hr : ∀ vs H, RpAll K H vs ds → ∀ Q : VK, (∀ p vs H', H p = none → Ex H H' → H' p = some (.lst vs) → DpAll K H' vs es → Q (.ref p) H') → r vs H Q) : EvF K (tCB r ta) Γ es := fun σ H E Q q =>
  h σ H E _ fun vs H1 e1 r1 => hr vs H1 r1 Q fun p vs H' n e2 h2 r2 => q p vs H' (fresh_back e1 n) (e1.trans e2) h2 r2
theorem rp1 {H : Hp} {vs : List V} (h : RpAll K H vs [d]) : ∃ v, vs = [v] ∧ Rp K H v d := by
  cases h with
  | cons a b => cases b; exact ⟨_, rfl, a⟩
theorem rp2 {H : Hp} {vs : List V} (h : RpAll K H vs [d, e]) : ∃ v w, vs = [v, w] ∧ Rp K H v d ∧ Rp K H w e := by
  cases h with
  | cons a b => cases b with
    | cons a' b' => cases b'; exact ⟨_, _, rfl, a, a'⟩
theorem rp3 {H : Hp} {vs : List V} (h : RpAll K H vs [d, e, f]) : ∃ v w x, vs = [v, w, x] ∧ Rp K H v d ∧ Rp K H w e ∧ Rp K H x f := by
  cases h with
  | cons a b => cases b with
    | cons a' b' => cases b' with
      | cons a'' b'' => cases b''; exact ⟨_, _, _, rfl, a, a', a''⟩
abbrev rAbs : List V → Hp → VK → Prop := fun xs H Q => ∃ i, xs = [.int i] ∧ Q (.int (if i < 0 then -i else i)) H
theorem ev_abs (h : EvR K ta Γ (.int i)) : EvR K (tCB rAbs (tCons ta tNil)) Γ (.int (if i < 0 then -i else i)) :=
  ev_cb (eas_cons h eas_nil) fun vs H r Q q => by
    obtain ⟨v, rfl, r1⟩ := rp1 r
    exact ⟨i, by rw [r1.int], q _ H (Ex.refl H) (.inl (.int _))⟩
abbrev rMax2' : List V → Hp → VK → Prop := fun xs H Q => ∃ i j, xs = [.int i, .int j] ∧ Q (.int (if j > i then j else i)) H
theorem ev_max2 (h : EvR K ta Γ (.int i)) (h2 : EvR K tb Γ (.int j)) : EvR K (tCB rMax2' (tCons ta (tCons tb tNil))) Γ (.int (if j > i then j else i)) :=
  ev_cb (eas_cons h (eas_cons h2 eas_nil)) fun vs H r Q q => by
    obtain ⟨v, w, rfl, r1, r2⟩ := rp2 r
    exact ⟨i, j, by rw [r1.int, r2.int], q _ H (Ex.refl H) (.inl (.int _))⟩
abbrev rMin2' : List V → Hp → VK → Prop := fun xs H Q => ∃ i j, xs = [.int i, .int j] ∧ Q (.int (if j < i then j else i)) H
theorem ev_min2 (h : EvR K ta Γ (.int i)) (h2 : EvR K tb Γ (.int j)) : EvR K (tCB rMin2' (tCons ta (tCons tb tNil))) Γ (.int (if j < i then j else i)) :=
  ev_cb (eas_cons h (eas_cons h2 eas_nil)) fun vs H r Q q => by
    obtain ⟨v, w, rfl, r1, r2⟩ := rp2 r
    exact ⟨i, j, by rw [r1.int, r2.int], q _ H (Ex.refl H) (.inl (.int _))⟩
abbrev rInt1 : List V → Hp → VK → Prop := fun xs H Q => (∃ i, xs = [.int i] ∧ Q (.int i) H) ∨ ∃ k, xs = [.bl k] ∧ Q (.int (if k then 1 else 0)) H
theorem ev_intI (h : EvR K ta Γ (.int i)) : EvR K (tCB rInt1 (tCons ta tNil)) Γ (.int i) :=
  ev_cb (eas_cons h eas_nil) fun vs H r Q q => by
    obtain ⟨v, rfl, r1⟩ := rp1 r
    exact .inl ⟨i, by rw [r1.int], q _ H (Ex.refl H) (.inl (.int _))⟩
theorem ev_intB (h : EvR K ta Γ (.bool b)) : EvR K (tCB rInt1 (tCons ta tNil)) Γ (.int (if b then 1 else 0)) :=
  ev_cb (eas_cons h eas_nil) fun vs H r Q q => by
    obtain ⟨v, rfl, r1⟩ := rp1 r
    exact .inr ⟨b, by rw [r1.bool], q _ H (Ex.refl H) (.inl (.int _))⟩
abbrev rLenS' (K : PySem.W.Frag) : List V → Hp → VK → Prop := fun xs H Q => ∃ p ys, xs = [.ref p] ∧ (SqL K H p ys ∨ L2.SqT K H p ys) ∧ Q (.int ys.length) H
theorem ev_lenT {ds : List D} (h : EvR K ta Γ (.tuple ds)) : EvR K (tCB (rLenS' K) (tCons ta tNil)) Γ (.int (ds.length : Int)) :=
  ev_cb (eas_cons h eas_nil) fun vs H r Q q => by
    obtain ⟨v, rfl, r1⟩ := rp1 r
    obtain ⟨a, ws, rfl, hs, hd⟩ := r1.tup
    refine ⟨a, ws, rfl, .inr hs, q _ H (Ex.refl H) (.inl ?_)⟩
    rw [DpAll.length hd]
    exact .int _
theorem ev_lenL {ds : List D} (h : EvR K ta Γ (.list ds)) : EvR K (tCB (rLenS' K) (tCons ta tNil)) Γ (.int (ds.length : Int)) :=
  ev_cb (eas_cons h eas_nil) fun vs H r Q q => by
    obtain ⟨v, rfl, r1⟩ := rp1 r
    obtain ⟨a, ws, rfl, hs, hd⟩ := r1.lst
    refine ⟨a, ws, rfl, .inl hs, q _ H (Ex.refl H) (.inl ?_)⟩
    rw [DpAll.length hd]
    exact .int _
abbrev rListOf (K : PySem.W.Frag) : List V → Hp → VK → Prop := fun xs H Q => ∃ p ys, xs = [.ref p] ∧ (SqL K H p ys ∨ L2.SqT K H p ys) ∧ ∀ l, H l = none → Q (.ref l) (upd H l (.lst ys))
theorem ef_listT {ds : List D} (h : EvR K ta Γ (.tuple ds)) : EvF K (tCB (rListOf K) (tCons ta tNil)) Γ ds :=
  ef_cb (eas_cons h eas_nil) fun vs H r Q q => by
    obtain ⟨v, rfl, r1⟩ := rp1 r
    obtain ⟨a, ws, rfl, hs, hd⟩ := r1.tup
    exact ⟨a, ws, rfl, .inr hs, fun l hl => q l ws _ hl (Ex.new hl) upd_same (DpAll.mono (Ex.new hl) hd)⟩
theorem ef_listL {ds : List D} (h : EvR K ta Γ (.list ds)) : EvF K (tCB (rListOf K) (tCons ta tNil)) Γ ds :=
  ef_cb (eas_cons h eas_nil) fun vs H r Q q => by
    obtain ⟨v, rfl, r1⟩ := rp1 r
    obtain ⟨a, ws, rfl, hs, hd⟩ := r1.lst
    exact ⟨a, ws, rfl, .inl hs, fun l hl => q l ws _ hl (Ex.new hl) upd_same (DpAll.mono (Ex.new hl) hd)⟩
theorem ev_tupL {ds : List D} (h : EvR K ta Γ (.list ds)) : EvR K (tCB (rTupOf K) (tCons ta tNil)) Γ (.tuple ds) :=
  ev_cb (eas_cons h eas_nil) fun vs H r Q q => by
    obtain ⟨v, rfl, r1⟩ := rp1 r
    obtain ⟨a, ws, rfl, hs, hd⟩ := r1.lst
    exact ⟨a, ws, rfl, .inl ⟨hs, fun l hl => q _ _ (Ex.new hl) (.inl (.tup (st_of upd_same) (DpAll.mono (Ex.new hl) hd)))⟩⟩
theorem ev_tupT {ds : List D} (h : EvR K ta Γ (.tuple ds)) : EvR K (tCB (rTupOf K) (tCons ta tNil)) Γ (.tuple ds) :=
  ev_cb (eas_cons h eas_nil) fun vs H r Q q => by
    obtain ⟨v, rfl, r1⟩ := rp1 r
    obtain ⟨a, ws, rfl, hs, hd⟩ := r1.tup
    exact ⟨a, ws, rfl, .inr ⟨hs, q _ H (Ex.refl H) (.inl (.tup hs hd))⟩⟩
theorem ev_sum {ns : List Int} (h : EvR K ta Γ (lI ns)) : EvR K (tCB (rSum K) (tCons ta tNil)) Γ (.int ns.sum) :=
  ev_cb (eas_cons h eas_nil) fun vs H r Q q => by
    obtain ⟨v, rfl, r1⟩ := rp1 r
    obtain ⟨a, ws, rfl, hs, hd⟩ := r1.lst
    rw [DpAll.ints hd] at hs
    exact ⟨a, ns, rfl, hs, q _ H (Ex.refl H) (.inl (.int _))⟩
theorem ev_all {bs : List Bool} (h : EvR K ta Γ (.list (bs.map .bool))) : EvR K (tCB (rAll K) (tCons ta tNil)) Γ (.bool (bs.all id)) :=
  ev_cb (eas_cons h eas_nil) fun vs H r Q q => by
    obtain ⟨v, rfl, r1⟩ := rp1 r
    obtain ⟨a, ws, rfl, hs, hd⟩ := r1.lst
    rw [DpAll.bls hd] at hs
    exact ⟨a, bs, rfl, hs, q _ H (Ex.refl H) (.inl (.bl _))⟩
/-- t + u of tuples -/
theorem ev_catT {ds es : List D} (ha : EvR K ta Γ (.tuple ds)) (hb : EvR K tb Γ (.tuple es)) (hl : ds.length + es.length ≤ 100000) : EvR K (tOp (rCatA K) ta tb) Γ (.tuple (ds ++ es)) :=
  ev_op ha hb fun x y H r1 r2 Q q => by
    obtain ⟨a, vs, rfl, hs, hd⟩ := r1.tup
    obtain ⟨b, ws, rfl, ht, he⟩ := r2.tup
    have l1 := DpAll.length hd
    have l2 := DpAll.length he
    refine ⟨a, b, vs, ws, rfl, rfl, hs, ht, sz_of (by omega), fun z => ?_, fun _ z => ?_, fun _ _ => fun p hp => ?_⟩
    · have z' : ds = [] := List.length_eq_zero_iff.mp (by rw [← l1, z]; rfl)
      rw [z'] at q
      exact q _ H (Ex.refl H) (.inl (.tup ht he))
    · have z' : es = [] := List.length_eq_zero_iff.mp (by rw [← l2, z]; rfl)
      rw [z', List.append_nil] at q
      exact q _ H (Ex.refl H) (.inl (.tup hs hd))
    · exact q _ _ (Ex.new hp) (.inl (.tup (st_of upd_same) (DpAll.mono (Ex.new hp) (DpAll.append hd he))))
/-! slices -/
theorem ep_none : EvP K tNoPart Γ none := fun σ H E Q q => q H (Ex.refl H)
theorem ep_some (h : EvR K te Γ (.int i)) : EvP K (tPart te) Γ (some i) := fun σ H E Q q => h σ H E _ fun v H1 e1 r1 => ⟨i, r1.int, q H1 e1⟩
def cutD (xs : List D) (lo hi : Option Int) : List D := (xs.drop (HT.sIx xs.length 0 lo)).take (HT.sIx xs.length xs.length hi - HT.sIx xs.length 0 lo)
theorem DpAll.cut {H : Hp} {vs : List V} {ds : List D} (lo hi : Option Int) (h : DpAll K H vs ds) : DpAll K H (cutV vs lo hi) (cutD ds lo hi) := by
  unfold cutV cutD
  rw [DpAll.length h]
  exact DpAll.take _ (DpAll.drop _ h)
theorem ev_slT {ds : List D} {tl th : TO} {lo hi : Option Int} (ha : EvR K te Γ (.tuple ds)) (hl : EvP K tl Γ lo) (hh : EvP K th Γ hi) : EvR K (tSl (rSlA K) te tl th) Γ (.tuple (cutD ds lo hi)) := fun σ H E Q q =>
  ha σ H E _ fun v H1 e1 r1 => hl σ H1 (E.mono e1) _ fun H2 e2 => hh σ H2 (E.mono (e1.trans e2)) _ fun H3 e3 => by
    obtain ⟨a, vs, rfl, hs, hd⟩ := (r1.mono (e2.trans e3)).tup
    have e := (e1.trans e2).trans e3
    refine ⟨a, vs, rfl, hs, fun z => ?_, fun _ => fun p hp => ?_⟩
    · have l1 := DpAll.length hd
      have : cutD ds lo hi = ds := by
        unfold cutD
        rw [← l1, z.1, z.2, List.drop_zero, Nat.sub_zero, l1]
        exact List.take_length
      rw [this] at q
      exact q _ H3 e (.inl (.tup hs hd))
    · exact q _ _ (e.trans (Ex.new hp)) (.inl (.tup (st_of upd_same) (DpAll.mono (Ex.new hp) (DpAll.cut lo hi hd))))
theorem ef_slL {ds : List D} {tl th : TO} {lo hi : Option Int} (ha : EvR K te Γ (.list ds)) (hl : EvP K tl Γ lo) (hh : EvP K th Γ hi) : EvF K (tSl (rSlL K) te tl th) Γ (cutD ds lo hi) := fun σ H E Q q =>
  ha σ H E _ fun v H1 e1 r1 => hl σ H1 (E.mono e1) _ fun H2 e2 => hh σ H2 (E.mono (e1.trans e2)) _ fun H3 e3 => by
    obtain ⟨a, vs, rfl, hs, hd⟩ := (r1.mono (e2.trans e3)).lst
    have e := (e1.trans e2).trans e3
    exact ⟨a, vs, rfl, hs, fun p hp => q p _ _ (fresh_back e hp) (e.trans (Ex.new hp)) upd_same (DpAll.mono (Ex.new hp) (DpAll.cut lo hi hd))⟩
theorem ef_revL {ds : List D} (ha : EvR K te Γ (.list ds)) : EvF K (tRevL K te) Γ ds.reverse := fun σ H E Q q =>
  ha σ H E _ fun v H1 e1 r1 => by
    obtain ⟨a, vs, rfl, hs, hd⟩ := r1.lst
    exact ⟨a, vs, rfl, hs, fun p hp => q p _ _ (fresh_back e1 hp) (e1.trans (Ex.new hp)) upd_same (DpAll.mono (Ex.new hp) (DpAll.reverse hd))⟩
theorem cutD_from (ds : List D) (k : Nat) : cutD ds (some (k : Int)) none = ds.drop k := by
  unfold cutD
  rw [HT.sIx_nat, HT.sIx_none]
  by_cases h : k ≤ ds.length
  · rw [Nat.min_eq_left h]
    exact List.take_of_length_le (by simp)
  · rw [Nat.min_eq_right (by omega), List.drop_length, List.drop_of_length_le (by omega)]
    simp
end
end KW

set_option Elab.async false
set_option linter.all false
set_option maxRecDepth 100000
set_option maxHeartbeats 4000000
/-! comprehensions, calls -/
namespace KW
open PySem PySem.Spec PyProof.Rows L2 Evl

/-! ### a heap without one object -/
noncomputable def del (H : Hp) (D : Addr) : Hp := fun a => if a = D then none else H a
theorem del_same {H : Hp} {D : Addr} : del H D D = none := by unfold del; rw [if_pos rfl]
theorem del_ne {H : Hp} {D a : Addr} (h : a ≠ D) : del H D a = H a := by unfold del; rw [if_neg h]
theorem del_ex {H : Hp} {D : Addr} : Ex (del H D) H := fun a o h => by
  by_cases e : a = D
  · subst e; rw [del_same] at h; cases h
  · rw [del_ne e] at h; exact h
theorem del_mono {H H' : Hp} {D : Addr} (x : Ex H H') : Ex (del H D) (del H' D) := fun a o h => by
  by_cases e : a = D
  · subst e; rw [del_same] at h; cases h
  · rw [del_ne e] at h ⊢; exact x a o h
theorem del_upd {H H' : Hp} {D : Addr} {o : HO} (x : Ex H H') : Ex (del H D) (del (upd H' D o) D) := fun a u h => by
  by_cases e : a = D
  · subst e; rw [del_same] at h; cases h
  · rw [del_ne e] at h ⊢; rw [upd_ne e]; exact x a u h
theorem del_of {H H' : Hp} {D : Addr} (n : H D = none) (x : Ex H H') : Ex H (del H' D) := fun a o h => by
  have e : a ≠ D := fun e => by subst e; rw [n] at h; cases h
  rw [del_ne e]; exact x a o h
theorem del_sqT {K : PySem.W.Frag} {H : Hp} {D : Addr} {xs : List V} (h : H D = some (.lst xs)) : ∀ a ys, SqT K H a ys → SqT K (del H D) a ys := fun a ys q => by
  obtain ⟨i, q⟩ := q
  have n : a ≠ D := fun z => by
    subst z
    rw [q] at h
    cases h
  exact ⟨i, by rw [del_ne n]; exact q⟩
/-! ### targets by data -/
def setW (σ : L2.St) (ws : List (Nat × V)) : L2.St := ws.foldl (fun σ p => σ.set p.1 (some p.2)) σ
def setJ (Γ : G) (js : List (Nat × D)) : G := js.foldl (fun Γ p => Γ.set p.1 (some p.2)) Γ
abbrev JW (K : PySem.W.Frag) (H : Hp) : List (Nat × V) → List (Nat × D) → Prop := Paired fun w j => w.1 = j.1 ∧ Rp K H w.2 j.2
theorem JW.env {K : PySem.W.Frag} {H : Hp} : ∀ {ws : List (Nat × V)} {js : List (Nat × D)} {σ : L2.St} {Γ : G}, JW K H ws js → EnvOk K H σ Γ → EnvOk K H (setW σ ws) (setJ Γ js)
  | _, _, _, _, .nil, E => E
  | _, _, σ, Γ, .cons (a := w) (b := j) h t, E => by
    obtain ⟨h1, h2⟩ := h
    have := E.set (j := j.1) h2
    rw [← h1] at this
    show EnvOk K H (setW (σ.set w.1 (some w.2)) _) (setJ (Γ.set j.1 (some j.2)) _)
    rw [← h1]
    exact JW.env t this
theorem setW_length : ∀ (ws : List (Nat × V)) (σ : L2.St), (setW σ ws).length = σ.length
  | [], _ => rfl
  | w :: ws, σ => by
    show (setW (σ.set w.1 (some w.2)) ws).length = _
    rw [setW_length, List.length_set]
theorem setW_out {i : Nat} : ∀ (ws : List (Nat × V)) (σ : L2.St), (∀ p ∈ ws, p.1 ≠ i) → (setW σ ws)[i]? = σ[i]?
  | [], _, _ => rfl
  | w :: ws, σ, h => by
    show (setW (σ.set w.1 (some w.2)) ws)[i]? = _
    rw [setW_out ws _ fun p hp => h p (List.mem_cons_of_mem _ hp), List.getElem?_set_ne (h w List.mem_cons_self)]
theorem JW.keys {K : PySem.W.Frag} {H : Hp} {vs : List Nat} : ∀ {ws : List (Nat × V)} {js : List (Nat × D)}, JW K H ws js → (∀ p ∈ js, p.1 ∈ vs) → ∀ p ∈ ws, p.1 ∈ vs
  | _, _, .nil, _, p, hp => by cases hp
  | _, _, .cons (b := j) h t, k, p, hp => by
    rcases List.mem_cons.mp hp with rfl | hp
    · rw [h.1]; exact k j List.mem_cons_self
    · exact JW.keys t (fun q hq => k q (List.mem_cons_of_mem _ hq)) p hp
theorem JW.mono {K : PySem.W.Frag} {H H' : Hp} (e : Ex H H') : ∀ {ws : List (Nat × V)} {js : List (Nat × D)}, JW K H ws js → JW K H' ws js
  | _, _, .nil => .nil
  | _, _, .cons h t => .cons ⟨h.1, h.2.mono e⟩ (JW.mono e t)
theorem JW.append {K : PySem.W.Frag} {H : Hp} : ∀ {ws ws' : List (Nat × V)} {js js' : List (Nat × D)}, JW K H ws js → JW K H ws' js' → JW K H (ws ++ ws') (js ++ js')
  | _, _, _, _, .nil, h => h
  | _, _, _, _, .cons h t, q => .cons h (JW.append t q)
theorem setW_append (σ : L2.St) (a b : List (Nat × V)) : setW σ (a ++ b) = setW (setW σ a) b := List.foldl_append
def Tg (K : PySem.W.Frag) (g : TG) (d : D) (js : List (Nat × D)) : Prop :=
  ∀ v B, Rp K B v d → ∃ ws, JW K B ws js ∧ ∀ H, Ex B H → ∀ σ (Q : L2.St → Hp → Prop), Q (setW σ ws) H → g v σ H Q
def TgL (K : PySem.W.Frag) (g : TGs) (ds : List D) (js : List (Nat × D)) : Prop :=
  ∀ vs B, DpAll K B vs ds → ∃ ws, JW K B ws js ∧ ∀ H, Ex B H → ∀ σ (Q : L2.St → Hp → Prop), Q (setW σ ws) H → g vs σ H Q
section
variable {K : PySem.W.Frag} {d : D} {ds : List D} {js js' : List (Nat × D)} {g : TG} {gs : TGs} {j n : Nat}
theorem tg_name : Tg K (gName j) d [(j, d)] := fun v H r => ⟨[(j, v)], .cons ⟨rfl, r⟩ .nil, fun _ _ _ _ q => q⟩
theorem tgl_nil : TgL K gNil [] [] := fun vs H h => by
  cases h
  exact ⟨[], .nil, fun _ _ _ _ q => ⟨rfl, q⟩⟩
theorem tgl_cons (h : Tg K g d js) (t : TgL K gs ds js') : TgL K (gCons g gs) (d :: ds) (js ++ js') := fun vs H q => by
  cases q with
  | cons a b =>
    obtain ⟨w1, p1, q1⟩ := h _ H (.inl a)
    obtain ⟨w2, p2, q2⟩ := t _ H b
    refine ⟨w1 ++ w2, JW.append p1 p2, fun H' e σ Q z => ⟨_, _, rfl, q1 H' e σ _ (q2 H' e _ _ ?_)⟩⟩
    rw [setW_append] at z
    exact z
theorem tg_tup (h : TgL K gs ds js) (hn : ds.length = n) : Tg K (gTup K n gs) (.tuple ds) js := fun v H r => by
  obtain ⟨a, vs, rfl, hs, hd⟩ := r.tup
  obtain ⟨ws, p, q⟩ := h _ H hd
  exact ⟨ws, p, fun H' e σ Q z => ⟨a, vs, rfl, ex_t e hs, by rw [DpAll.length hd]; exact hn, q H' e σ Q z⟩⟩
end

/-! ### what is walked -/
def WalksD (K : PySem.W.Frag) (J : It) (B : Hp) (ds : List D) : Prop :=
  ∀ H', Ex B H' → (∀ (i : Nat) d, ds[i]? = some d → J.go i H' ∧ ∀ x H'', J.yld i H' x H'' → Ex H' H'' ∧ Rp K B x d) ∧ J.stop ds.length H'
def EvIt (K : PySem.W.Frag) (wi : TI) (Γ : G) (ds : List D) : Prop := ∀ σ H, EnvOk K H σ Γ → ∀ R : It → Hp → Prop, (∀ J H', Ex H H' → WalksD K J H' ds → R J H') → wi σ H R
/-- .. by what does not change with a list -/
def EvItM (K : PySem.W.Frag) (wi : TI) (Γ : G) (ds : List D) : Prop := ∀ σ H, EnvOk K H σ Γ → ∀ R : It → Hp → Prop, (∀ J H', Ex H H' → (∀ D xs, H D = some (.lst xs) → WalksD K J (del H' D) ds) → R J H') → wi σ H R
def rgI (lo : Int) (n : Nat) : List Int := (List.range n).map fun (i : Nat) => lo + (i : Int)
theorem rgI_length (lo : Int) (n : Nat) : (rgI lo n).length = n := by simp [rgI]
theorem rgI_get {lo : Int} {n i : Nat} (h : i < n) : (rgI lo n)[i]? = some (lo + (i : Int)) := by simp [rgI, h]
theorem mem_rgI {lo x : Int} {n : Nat} : x ∈ rgI lo n ↔ lo ≤ x ∧ x < lo + n := by
  simp only [rgI, List.mem_map, List.mem_range]
  constructor
  · rintro ⟨i, h, rfl⟩; omega
  · rintro ⟨h1, h2⟩
    exact ⟨(x - lo).toNat, by omega, by omega⟩
section
variable {K : PySem.W.Frag} {Γ : G} {ta : TA} {tl : TE}
theorem walks_rng (B : Hp) (lo : Int) (n : Nat) : WalksD K (Itr lo n) B ((rgI lo n).map .int) := fun H' _ => by
  refine ⟨fun i d h => ?_, ?_⟩
  · have hi : i < n := by
      obtain ⟨q, _⟩ := List.getElem?_eq_some_iff.mp h
      simpa [rgI_length] using q
    rw [List.getElem?_map, rgI_get hi] at h
    cases h
    exact ⟨hi, fun x H'' y => by
      obtain ⟨e1, e2⟩ := y
      subst e1 e2
      exact ⟨Ex.refl _, .inl (.int _)⟩⟩
  · show n ≤ _
    simp [rgI_length]
theorem it_rng1 {n : Int} (h : EvAs K ta Γ [.int n]) (hn : -(2 ^ 62) ≤ n ∧ n < 2 ^ 62) : EvIt K (iRng1 ta) Γ ((rgI 0 n.toNat).map .int) := fun σ H E R q =>
  h σ H E _ fun vs H1 e1 r => by
    obtain ⟨v, rfl, r1⟩ := rp1 r
    exact ⟨n, by rw [r1.int], hn.1, hn.2, q _ H1 e1 (walks_rng H1 0 n.toNat)⟩
theorem it_rng2 {lo n : Int} (h : EvAs K ta Γ [.int lo, .int n]) (hn : -(2 ^ 62) ≤ lo ∧ lo < 2 ^ 62 ∧ -(2 ^ 62) ≤ n ∧ n < 2 ^ 62) : EvIt K (iRng2 ta) Γ ((rgI lo (n - lo).toNat).map .int) := fun σ H E R q =>
  h σ H E _ fun vs H1 e1 r => by
    obtain ⟨v, w, rfl, r1, r2⟩ := rp2 r
    exact ⟨lo, n, by rw [r1.int, r2.int], hn, q _ H1 e1 (walks_rng H1 lo _)⟩
theorem itm_rng1 {n : Int} (h : EvAs K ta Γ [.int n]) (hn : -(2 ^ 62) ≤ n ∧ n < 2 ^ 62) : EvItM K (iRng1 ta) Γ ((rgI 0 n.toNat).map .int) := fun σ H E R q =>
  h σ H E _ fun vs H1 e1 r => by
    obtain ⟨v, rfl, r1⟩ := rp1 r
    exact ⟨n, by rw [r1.int], hn.1, hn.2, q _ H1 e1 fun D _ _ => walks_rng _ 0 n.toNat⟩
theorem itm_rng2 {lo n : Int} (h : EvAs K ta Γ [.int lo, .int n]) (hn : -(2 ^ 62) ≤ lo ∧ lo < 2 ^ 62 ∧ -(2 ^ 62) ≤ n ∧ n < 2 ^ 62) : EvItM K (iRng2 ta) Γ ((rgI lo (n - lo).toNat).map .int) := fun σ H E R q =>
  h σ H E _ fun vs H1 e1 r => by
    obtain ⟨v, w, rfl, r1, r2⟩ := rp2 r
    exact ⟨lo, n, by rw [r1.int, r2.int], hn, q _ H1 e1 fun D _ _ => walks_rng _ lo _⟩
theorem walks_tup {B : Hp} {a : Addr} {vs : List V} {ds : List D} (hs : SqT K B a vs) (hd : DpAll K B vs ds) : WalksD K (Itt K a) B ds := fun H' e => by
  have hs' := ex_t e hs
  have hl := DpAll.length hd
  refine ⟨fun i d h => ?_, ⟨vs, hs', by omega⟩⟩
  obtain ⟨v, h1, h2⟩ := DpAll.get hd h
  refine ⟨⟨vs, v, hs', h1⟩, fun x H'' y => ?_⟩
  obtain ⟨e1, e2⟩ := y
  subst e1
  have := e2 vs hs'
  rw [h1] at this
  cases this
  exact ⟨Ex.refl _, .inl h2⟩
theorem walks_lst {B : Hp} {a : Addr} {vs : List V} {ds : List D} (hs : SqL K B a vs) (hd : DpAll K B vs ds) : WalksD K (Itl K a) B ds := fun H' e => by
  have hs' := ex_l e hs
  have hl := DpAll.length hd
  refine ⟨fun i d h => ?_, ⟨vs, hs', by omega⟩⟩
  obtain ⟨v, h1, h2⟩ := DpAll.get hd h
  refine ⟨⟨vs, v, hs', h1⟩, fun x H'' y => ?_⟩
  obtain ⟨e1, e2⟩ := y
  subst e1
  have := e2 vs hs'
  rw [h1] at this
  cases this
  exact ⟨Ex.refl _, .inl h2⟩
theorem it_tup {ds : List D} (h : EvR K tl Γ (.tuple ds)) : EvIt K (iTup K tl) Γ ds := fun σ H E R q =>
  h σ H E _ fun v H1 e1 r => by
    obtain ⟨a, vs, rfl, hs, hd⟩ := r.tup
    exact ⟨a, rfl, ⟨vs, hs⟩, q _ H1 e1 (walks_tup hs hd)⟩
theorem it_lst {ds : List D} (h : EvR K tl Γ (.list ds)) : EvIt K (iList K tl) Γ ds := fun σ H E R q =>
  h σ H E _ fun v H1 e1 r => by
    obtain ⟨a, vs, rfl, hs, hd⟩ := r.lst
    exact ⟨a, rfl, ⟨vs, hs⟩, q _ H1 e1 (walks_lst hs hd)⟩
theorem itm_tup {ds : List D} (h : EvR K tl Γ (.tuple ds)) (n : noLs ds = true) : EvItM K (iTup K tl) Γ ds := fun σ H E R q =>
  h σ H E _ fun v H1 e1 r => by
    obtain ⟨a, vs, rfl, hs, hd⟩ := r.tup
    exact ⟨a, rfl, ⟨vs, hs⟩, q _ H1 e1 fun D xs hD => walks_tup (del_sqT (e1 _ _ hD) _ _ hs) (DpAll.mapT (del_sqT (e1 _ _ hD)) _ _ n hd)⟩
end

/-! ### a value that no elder list bears -/
def EvM (K : PySem.W.Frag) (te : TE) (Γ : G) (d : D) : Prop := ∀ σ H, EnvOk K H σ Γ → ∀ Q : VK, (∀ v H', Ex H H' → (∀ D xs, H D = some (.lst xs) → Dp K (del H' D) v d) → Q v H') → te σ H Q
section
variable {K : PySem.W.Frag} {Γ : G} {ta : TA} {te : TE} {d : D}
theorem noL_dict : ∀ {d : D}, noL d = true → isDict d = false
  | .none, _ => rfl
  | .bool _, _ => rfl
  | .int _, _ => rfl
  | .str _, _ => rfl
  | .tuple _, _ => rfl
  | .list _, n => by simp [noL] at n
  | .dict _, n => by simp [noL] at n
theorem em_R (n : noL d = true) (h : EvR K te Γ d) : EvM K te Γ d := fun σ H E Q q => h σ H E Q fun v H' e r => q v H' e fun D xs hD => Dp.mapT (del_sqT (e _ _ hD)) d v n (r.dp (noL_dict n))
theorem em_F {ds : List D} (n : noLs ds = true) (h : EvF K te Γ ds) : EvM K te Γ (.list ds) := fun σ H E Q q => h σ H E Q fun p vs H' np e hp hd => q _ H' e fun D xs hD => by
  have ne : p ≠ D := fun z => by subst z; rw [np] at hD; cases hD
  exact .lst (sq_of (by rw [del_ne ne]; exact hp)) (DpAll.mapT (del_sqT (e _ _ hD)) _ _ n hd)
end

/-! ### list comprehensions -/
theorem take_succ_fm {α β : Type} (f : α → Bool) (v : α → β) (l : List α) (i : Nat) (a : α) (h : l[i]? = some a) : ((l.take (i + 1)).filter f).map v = ((l.take i).filter f).map v ++ (if f a then [v a] else []) := by
  rw [List.take_add_one, h, List.filter_append, List.map_append]
  cases h : f a <;> simp [h]
theorem filter_len_le {α : Type} (f : α → Bool) (l : List α) : (l.filter f).length ≤ l.length := List.length_filter_le f l
/-- the comprehension's list D: what it holds -/
def Cw (K : PySem.W.Frag) (H0 : Hp) (D : Addr) (ds : List PyData) (H : Hp) : Prop := Ex H0 (del H D) ∧ ∃ vs, H D = some (.lst vs) ∧ DpAll K (del H D) vs ds
section
variable {K : PySem.W.Frag} {H0 H : Hp} {D : Addr} {ds : List PyData}
theorem Cw.ex (n : H0 D = none) (h : Cw K H0 D ds H) : Ex H0 H := fun a o q => by
  have := h.1 a o q
  exact del_ex a o this
theorem Cw.new (n : H0 D = none) : Cw K H0 D [] (upd H0 D (.lst [])) := ⟨del_of n (Ex.new n), [], upd_same, .nil⟩
theorem Cw.mono {H' : Hp} (e : Ex H H') (h : Cw K H0 D ds H) : Cw K H0 D ds H' := by
  obtain ⟨a, vs, b, c⟩ := h
  exact ⟨a.trans (del_mono e), vs, e _ _ b, DpAll.mono (del_mono e) c⟩
/-- one more item -/
theorem Cw.snoc {v : V} {d : PyData} (h : Cw K H0 D ds H) (r : Dp K (del H D) v d) (hz : ds.length < 100000) : ∃ acc, H D = some (.lst acc) ∧ acc.length < sizeLine ∧ Cw K H0 D (ds ++ [d]) (upd H D (.lst (acc ++ [v]))) := by
  obtain ⟨a, vs, b, c⟩ := h
  refine ⟨vs, b, sz_lt (by rw [DpAll.length c]; exact hz), ?_, vs ++ [v], upd_same, ?_⟩
  · exact a.trans (del_upd (Ex.refl H))
  · exact DpAll.append (DpAll.mono (del_upd (Ex.refl H)) c) (.cons (Dp.mono (del_upd (Ex.refl H)) r) .nil)
end
section
variable {K : PySem.W.Frag} {Γ : G} {wi wi1 : TI} {g g1 : TG} {tt tt1 : TT} {te : TE} {vs vs1 : List Nat} {α β : Type}
theorem ef_lc (src : List α) (emb : α → D) (jd : α → List (Nat × D)) (f : α → Bool) (v : α → D) (hi : EvIt K wi Γ (src.map emb)) (hg : ∀ a ∈ src, Tg K g (emb a) (jd a)) (hj : ∀ a ∈ src, ∀ p ∈ jd a, p.1 ∈ vs)
    (ht : ∀ a ∈ src, EvB K tt (setJ (wipeG Γ vs) (jd a)) (f a)) (he : ∀ a ∈ src, f a = true → EvM K te (setJ (wipeG Γ vs) (jd a)) (v a)) (hl : src.length ≤ 100000) : EvF K (tLc wi g tt te vs) Γ ((src.filter f).map v) := fun σ H E Q q =>
  hi σ H E _ fun J H1 e1 w => fun Dl hD => by
    refine ⟨fun i m H' => m = src.length - i ∧ i ≤ src.length ∧ Cw K H1 Dl (((src.take i).filter f).map v) H', ⟨src.length, by simp, Nat.zero_le _, by simpa using Cw.new hD⟩, ?_⟩
    rintro i m H' ⟨rfl, hi', cw⟩
    have ex := cw.ex hD
    obtain ⟨w1, w2⟩ := w H' ex
    by_cases hlt : i < src.length
    · have hsrc : src[i]? = some src[i] := List.getElem?_eq_getElem hlt
      have hmem : src[i] ∈ src := List.getElem_mem hlt
      obtain ⟨go, step⟩ := w1 i (emb src[i]) (by rw [List.getElem?_map, hsrc]; rfl)
      refine .inr ⟨go, fun H'' => Cw K H1 Dl (((src.take (i + 1)).filter f).map v) H'', fun H'' p => ⟨src.length - (i + 1), by omega, rfl, hlt, p⟩, fun x H2 y => ?_⟩
      obtain ⟨e2, rx⟩ := step x H2 y
      obtain ⟨ws, jw, gq⟩ := hg _ hmem x H1 rx
      refine gq H2 (ex.trans e2) _ _ ⟨wipe_eq (by rw [setW_length, wipe_length]) fun k hk => ?_, ?_⟩
      · rw [setW_out ws _ fun p hp (z : p.1 = k) => hk (by rw [← z]; exact jw.keys (hj _ hmem) p hp), wipe_get hk]
      · have E1 : EnvOk K H1 (setW (wipe σ vs) ws) (setJ (wipeG Γ vs) (jd src[i])) := jw.env ((E.mono e1).wipe vs)
        have E2 := E1.mono (ex.trans e2)
        refine ht _ hmem _ H2 E2 _ fun H3 e3 => ?_
        have cw3 : Cw K H1 Dl (((src.take i).filter f).map v) H3 := (cw.mono e2).mono e3
        have tk := take_succ_fm f v src i src[i] hsrc
        cases hf : f src[i] with
        | false =>
          show Cw K H1 Dl (((src.take (i + 1)).filter f).map v) H3
          rw [tk, hf]
          simpa using cw3
        | true =>
          show te (setW (wipe σ vs) ws) H3 fun y H4 => ∃ acc, H4 Dl = some (.lst acc) ∧ acc.length < sizeLine ∧ Cw K H1 Dl (((src.take (i + 1)).filter f).map v) (upd H4 Dl (.lst (acc ++ [y])))
          refine he _ hmem hf _ H3 (E2.mono e3) _ fun y H4 e4 ry => ?_
          obtain ⟨acc0, hacc, _⟩ := cw3.2
          rw [tk, hf]
          exact (cw3.mono e4).snoc (ry Dl _ hacc) (by
            rw [List.length_map]
            have := filter_len_le f (src.take i)
            rw [List.length_take] at this
            omega)
    · have hii : i = src.length := by omega
      subst hii
      rw [List.length_map] at w2
      rw [List.take_length] at cw
      obtain ⟨vs', hv1, hv2⟩ := cw.2
      exact .inl ⟨w2, q Dl vs' H' (fresh_back e1 hD) (e1.trans ex) hv1 (DpAll.mono del_ex hv2)⟩
/-- two clauses, the first one without a test -/
theorem ef_lc2 (src : List α) (emb : α → D) (jd : α → List (Nat × D)) (src1 : α → List β) (emb1 : α → β → D) (jd1 : α → β → List (Nat × D)) (f : α → β → Bool) (v : α → β → D)
    (hi : EvIt K wi Γ (src.map emb)) (hg : ∀ a ∈ src, Tg K g (emb a) (jd a)) (hj : ∀ a ∈ src, ∀ p ∈ jd a, p.1 ∈ vs)
    (hi1 : ∀ a ∈ src, EvItM K wi1 (setJ (wipeG Γ vs) (jd a)) ((src1 a).map (emb1 a)))
    (hg1 : ∀ a ∈ src, ∀ b ∈ src1 a, Tg K g1 (emb1 a b) (jd1 a b)) (hj1 : ∀ a ∈ src, ∀ b ∈ src1 a, ∀ p ∈ jd1 a b, p.1 ∈ vs1)
    (ht : ∀ a ∈ src, ∀ b ∈ src1 a, EvB K tt1 (setJ (wipeG (setJ (wipeG Γ vs) (jd a)) vs1) (jd1 a b)) (f a b)) (he : ∀ a ∈ src, ∀ b ∈ src1 a, f a b = true → EvM K te (setJ (wipeG (setJ (wipeG Γ vs) (jd a)) vs1) (jd1 a b)) (v a b))
    (hl : ∀ i, ((src.take i).flatMap fun a => ((src1 a).filter (f a)).map (v a)).length ≤ 50000) (hl1 : ∀ a ∈ src, (src1 a).length ≤ 40000) : EvF K (tLc2 wi g tYes wi1 g1 tt1 te vs vs1) Γ (src.flatMap fun a => ((src1 a).filter (f a)).map (v a)) := fun σ H E Q q =>
  hi σ H E _ fun J H1 e1 w => fun Dl hD => by
    refine ⟨fun i m H' => m = src.length - i ∧ i ≤ src.length ∧ Cw K H1 Dl ((src.take i).flatMap fun a => ((src1 a).filter (f a)).map (v a)) H', ⟨src.length, by simp, Nat.zero_le _, by simpa using Cw.new hD⟩, ?_⟩
    rintro i m H' ⟨rfl, hi', cw⟩
    have ex := cw.ex hD
    obtain ⟨w1, w2⟩ := w H' ex
    by_cases hlt : i < src.length
    · have hsrc : src[i]? = some src[i] := List.getElem?_eq_getElem hlt
      have hmem : src[i] ∈ src := List.getElem_mem hlt
      obtain ⟨go, step⟩ := w1 i (emb src[i]) (by rw [List.getElem?_map, hsrc]; rfl)
      refine .inr ⟨go, fun H'' => Cw K H1 Dl ((src.take (i + 1)).flatMap fun a => ((src1 a).filter (f a)).map (v a)) H'', fun H'' p => ⟨src.length - (i + 1), by omega, rfl, hlt, p⟩, fun x H2 y => ?_⟩
      obtain ⟨e2, rx⟩ := step x H2 y
      obtain ⟨ws, jw, gq⟩ := hg _ hmem x H1 rx
      refine gq H2 (ex.trans e2) _ _ ⟨wipe_eq (by rw [setW_length, wipe_length]) fun k hk => ?_, ?_⟩
      · rw [setW_out ws _ fun p hp (z : p.1 = k) => hk (by rw [← z]; exact jw.keys (hj _ hmem) p hp), wipe_get hk]
      · have E1 : EnvOk K H1 (setW (wipe σ vs) ws) (setJ (wipeG Γ vs) (jd src[i])) := jw.env ((E.mono e1).wipe vs)
        have E2 := E1.mono (ex.trans e2)
        show wi1 (setW (wipe σ vs) ws) H2 _
        refine hi1 _ hmem _ H2 E2 _ fun J1 H4 e4 w4 => ?_
        have cw4 : Cw K H1 Dl ((src.take i).flatMap fun a => ((src1 a).filter (f a)).map (v a)) H4 := (cw.mono e2).mono e4
        obtain ⟨acc0, hacc, _⟩ := (cw.mono e2).2
        have w5 := w4 Dl _ hacc
        have tk : (src.take (i + 1)).flatMap (fun a => ((src1 a).filter (f a)).map (v a)) = (src.take i).flatMap (fun a => ((src1 a).filter (f a)).map (v a)) ++ ((src1 src[i]).filter (f src[i])).map (v src[i]) := by
          rw [List.take_add_one, hsrc, List.flatMap_append]
          simp
        -- the inner loop: all but Dl stays
        refine ⟨fun j k H' => k = (src1 src[i]).length - j ∧ j ≤ (src1 src[i]).length ∧ Ex (del H4 Dl) (del H' Dl) ∧ Cw K H1 Dl ((src.take i).flatMap (fun a => ((src1 a).filter (f a)).map (v a)) ++ (((src1 src[i]).take j).filter (f src[i])).map (v src[i])) H',
          ⟨_, rfl, Nat.zero_le _, Ex.refl _, by simpa using cw4⟩, ?_⟩
        rintro j k H5 ⟨rfl, hj', ex5, cw5⟩
        obtain ⟨x1, x2⟩ := w5 H5 (ex5.trans del_ex)
        by_cases hlt1 : j < (src1 src[i]).length
        · have hs1 : (src1 src[i])[j]? = some (src1 src[i])[j] := List.getElem?_eq_getElem hlt1
          have hm1 : (src1 src[i])[j] ∈ src1 src[i] := List.getElem_mem hlt1
          obtain ⟨go1, step1⟩ := x1 j (emb1 src[i] (src1 src[i])[j]) (by rw [List.getElem?_map, hs1]; rfl)
          refine .inr ⟨go1, fun H' => Ex (del H4 Dl) (del H' Dl) ∧ Cw K H1 Dl ((src.take i).flatMap (fun a => ((src1 a).filter (f a)).map (v a)) ++ (((src1 src[i]).take (j + 1)).filter (f src[i])).map (v src[i])) H',
            fun H' p => ⟨(src1 src[i]).length - (j + 1), by omega, rfl, hlt1, p⟩, fun x H6 y => ?_⟩
          obtain ⟨e6, rx1⟩ := step1 x H6 y
          have ex6 : Ex (del H4 Dl) H6 := (ex5.trans del_ex).trans e6
          obtain ⟨ws1, jw1, gq1⟩ := hg1 _ hmem _ hm1 x (del H4 Dl) rx1
          refine gq1 H6 ex6 _ _ ⟨wipe_eq (by rw [setW_length, wipe_length]) fun k hk => ?_, ?_⟩
          · rw [setW_out ws1 _ fun p hp (z : p.1 = k) => hk (by rw [← z]; exact jw1.keys (hj1 _ hmem _ hm1) p hp), wipe_get hk]
          · have E4 : EnvOk K (del H4 Dl) (setW (wipe σ vs) ws) (setJ (wipeG Γ vs) (jd src[i])) := E1.mono (cw.1.trans (del_mono (e2.trans e4)))
            have E6 : EnvOk K H6 (setW (wipe (setW (wipe σ vs) ws) vs1) ws1) (setJ (wipeG (setJ (wipeG Γ vs) (jd src[i])) vs1) (jd1 src[i] (src1 src[i])[j])) := (jw1.env (E4.wipe vs1)).mono ex6
            refine ht _ hmem _ hm1 _ H6 E6 _ fun H7 e7 => ?_
            have cw7 := (cw5.mono e6).mono e7
            have ex7 : Ex (del H4 Dl) (del H7 Dl) := ex5.trans (del_mono (e6.trans e7))
            have tk1 := take_succ_fm (f src[i]) (v src[i]) (src1 src[i]) j (src1 src[i])[j] hs1
            cases hf : f src[i] (src1 src[i])[j] with
            | false =>
              show Ex (del H4 Dl) (del H7 Dl) ∧ Cw K H1 Dl ((src.take i).flatMap (fun a => ((src1 a).filter (f a)).map (v a)) ++ (((src1 src[i]).take (j + 1)).filter (f src[i])).map (v src[i])) H7
              rw [tk1, hf]
              exact ⟨ex7, by simpa using cw7⟩
            | true =>
              show te (setW (wipe (setW (wipe σ vs) ws) vs1) ws1) H7 fun y H8 => ∃ acc, H8 Dl = some (.lst acc) ∧ acc.length < sizeLine ∧ Ex (del H4 Dl) (del (upd H8 Dl (.lst (acc ++ [y]))) Dl) ∧ Cw K H1 Dl ((src.take i).flatMap (fun a => ((src1 a).filter (f a)).map (v a)) ++ (((src1 src[i]).take (j + 1)).filter (f src[i])).map (v src[i])) (upd H8 Dl (.lst (acc ++ [y])))
              refine he _ hmem _ hm1 hf _ H7 (E6.mono e7) _ fun y H8 e8 ry => ?_
              obtain ⟨acc0, hacc7, _⟩ := cw7.2
              rw [tk1, hf]
              obtain ⟨acc, a1, a2, a3⟩ := (cw7.mono e8).snoc (ry Dl _ hacc7) (by
                have b1 := hl i
                have b2 := hl1 _ hmem
                have b3 := filter_len_le (f src[i]) ((src1 src[i]).take j)
                have b4 : ((src1 src[i]).take j).length ≤ (src1 src[i]).length := by rw [List.length_take]; omega
                rw [List.length_append, List.length_map]
                omega)
              refine ⟨acc, a1, a2, ex7.trans (del_upd e8), ?_⟩
              simpa using a3
        · have hjj : j = (src1 src[i]).length := by omega
          subst hjj
          rw [List.length_map] at x2
          rw [List.take_length] at cw5
          refine .inl ⟨x2, ?_⟩
          show Cw K H1 Dl ((src.take (i + 1)).flatMap fun a => ((src1 a).filter (f a)).map (v a)) H5
          rw [tk]
          exact cw5
    · have hii : i = src.length := by omega
      subst hii
      rw [List.length_map] at w2
      rw [List.take_length] at cw
      obtain ⟨vs', hv1, hv2⟩ := cw.2
      exact .inl ⟨w2, q Dl vs' H' (fresh_back e1 hD) (e1.trans ex) hv1 (DpAll.mono del_ex hv2)⟩
end
end KW

set_option Elab.async false
set_option linter.all false
set_option maxRecDepth 100000
set_option maxHeartbeats 4000000
/-! statements by data: slots that hold data that does not change, and lists and dicts of the def's own -/
namespace KW
open PySem PySem.Spec PyProof.Rows L2 Evl

inductive Sl where
  | no
  | im (d : D)
  | ow (ds : List D)
  | dk (kvs : List (Int × Int))
  | mt (rows : List (List Int))
  | pl (l c : Addr) (m : Nat)
def Sl.toD : Sl → Option D
  | .no => none
  | .im d => some d
  | .ow ds => some (.list ds)
  | .dk kvs => some (dI kvs)
  | .mt rows => some (.list (rows.map lI))
  | .pl _ _ _ => none
abbrev SS := List Sl
def gm (S : SS) : G := S.map Sl.toD
def Own (K : PySem.W.Frag) (e : Sl) (v : V) (Hm H : Hp) (as : List Addr) : Prop := match e with
  | .no => as = []
  | .im d => Rp K Hm v d ∧ as = []
  | .ow ds => ∃ l vs, v = .ref l ∧ as = [l] ∧ H l = some (.lst vs) ∧ DpAll K Hm vs ds
  | .dk kvs => ∃ l, v = .ref l ∧ as = [l] ∧ H l = some (.dK (kvs.map kvV))
  | .mt rows => ∃ l, v = .ref l ∧ Hm l = some (.lst (as.map .ref)) ∧ Paired (fun a row => H a = some (.lst (row.map .int))) as rows ∧ as.Nodup
  | .pl l c m => ∃ (r : Addr) (ns : List Int) (at' : Int), v = .ref l ∧ as = [c] ∧ Hm l = some (.lst [.ref r, .ref c]) ∧ Hm r = some (.lst (ns.map .int)) ∧ H c = some (.lst [.int at']) ∧ 0 ≤ at' ∧ at' ≤ (m : Int) ∧ 0 < ns.length ∧ ns.length ≤ 80 ∧ ∀ x ∈ ns, 0 ≤ x ∧ x < (4096 : Int)
structure SA (K : PySem.W.Frag) (Hm H : Hp) (σ : L2.St) (S : SS) (A : Nat → List Addr) : Prop where
  ex : Ex Hm H
  len : S.length = σ.length
  own : ∀ (i : Nat) e, S[i]? = some e → e ≠ .no → ∃ v, σ[i]? = some (some v) ∧ Own K e v Hm H (A i)
  empty : ∀ (i : Nat), (S[i]? = none ∨ S[i]? = some .no) → A i = []
  sep : ∀ (i j : Nat) a, i ≠ j → a ∈ A i → a ∈ A j → False
  out : ∀ (i : Nat) a, a ∈ A i → Hm a = none
def isImm : HO → Bool
  | .tup _ => true
  | .frz _ _ => true
  | _ => false
section
variable {K : PySem.W.Frag} {e : Sl} {v : V} {Hm Hm' H H' : Hp} {as : List Addr} {σ : L2.St} {S : SS} {A : Nat → List Addr}
theorem Paired.memL {α β : Type} {F : α → β → Prop} : ∀ {l₁ : List α} {l₂ : List β} {a : α}, Paired F l₁ l₂ → a ∈ l₁ → ∃ b, F a b
  | _, _, _, .nil, h => by cases h
  | _, _, a, .cons h t, m => by
    rcases List.mem_cons.mp m with rfl | m
    · exact ⟨_, h⟩
    · exact Paired.memL t m
theorem Own.kept (h : Own K e v Hm H as) (e1 : Ex Hm Hm') (e2 : ∀ a ∈ as, ∀ o, H a = some o → H' a = some o) : Own K e v Hm' H' as := by
  cases e with
  | no => exact h
  | im d => exact ⟨h.1.mono e1, h.2⟩
  | ow ds =>
    obtain ⟨l, vs, a, b, c, d⟩ := h
    subst b
    exact ⟨l, vs, a, rfl, e2 l (by simp) _ c, DpAll.mono e1 d⟩
  | dk kvs =>
    obtain ⟨l, a, b, c⟩ := h
    subst b
    exact ⟨l, a, rfl, e2 l (by simp) _ c⟩
  | mt rows =>
    obtain ⟨l, a, b, c, d⟩ := h
    refine ⟨l, a, e1 _ _ b, ?_, d⟩
    clear b d
    induction c with
    | nil => exact .nil
    | cons h t ih => exact .cons (e2 _ (by simp) _ h) (ih fun a ha => e2 a (by simp [ha]))
  | pl l c m =>
    obtain ⟨r, ns, at', a, b, c1, c2, c3, c4⟩ := h
    subst b
    exact ⟨r, ns, at', a, rfl, e1 _ _ c1, e1 _ _ c2, e2 c (by simp) _ c3, c4⟩
theorem Own.there (h : Own K e v Hm H as) : ∀ a ∈ as, ∃ o, H a = some o ∧ isImm o = false := fun a ha => by
  cases e with
  | no => rw [show as = [] from h] at ha; cases ha
  | im d => rw [h.2] at ha; cases ha
  | ow ds =>
    obtain ⟨l, vs, _, b, c, _⟩ := h
    subst b
    rw [List.mem_singleton.mp ha]
    exact ⟨_, c, rfl⟩
  | dk kvs =>
    obtain ⟨l, _, b, c⟩ := h
    subst b
    rw [List.mem_singleton.mp ha]
    exact ⟨_, c, rfl⟩
  | mt rows =>
    obtain ⟨l, _, b, c, _⟩ := h
    obtain ⟨row, q⟩ := Paired.memL c ha
    exact ⟨_, q, rfl⟩
  | pl l c m =>
    obtain ⟨r, ns, at', _, b, _, _, c3, _⟩ := h
    subst b
    rw [List.mem_singleton.mp ha]
    exact ⟨_, c3, rfl⟩
theorem rows_dp {K : PySem.W.Frag} {H : Hp} : ∀ {as : List Addr} {rows : List (List Int)}, Paired (fun a row => H a = some (.lst (row.map .int))) as rows → DpAll K H (as.map .ref) (rows.map lI)
  | _, _, .nil => .nil
  | _, _, .cons h t => .cons (.lst (sq_of h) (DpAll.of_ints _)) (rows_dp t)
theorem Own.rp {d : D} (h : Own K e v Hm H as) (x : Ex Hm H) (q : e.toD = some d) : Rp K H v d := by
  cases e with
  | no => cases q
  | im d' => cases q; exact h.1.mono x
  | ow ds =>
    cases q
    obtain ⟨l, vs, rfl, _, c, d⟩ := h
    exact .inl (.lst (sq_of c) (DpAll.mono x d))
  | dk kvs =>
    cases q
    obtain ⟨l, rfl, _, c⟩ := h
    exact .inr ⟨l, kvs, rfl, rfl, c⟩
  | mt rows =>
    cases q
    obtain ⟨l, rfl, b, c, _⟩ := h
    exact .inl (.lst (sq_of (x _ _ b)) (rows_dp c))
  | pl l c m => cases q
theorem SA.env (h : SA K Hm H σ S A) : EnvOk K H σ (gm S) := by
  refine ⟨by simp [gm, h.len], fun i d q => ?_⟩
  unfold gm at q
  rw [List.getElem?_map] at q
  cases hs : S[i]? with
  | none => rw [hs] at q; cases q
  | some e =>
    rw [hs] at q
    have q' : e.toD = some d := by simpa using q
    obtain ⟨v, a, b⟩ := h.own i e hs (by rintro rfl; cases q')
    exact ⟨v, a, b.rp h.ex q'⟩
open Classical in
noncomputable def strip (H : Hp) (A : Nat → List Addr) : Hp := fun a => if ∃ i, a ∈ A i then none else H a
theorem strip_in {a : Addr} {i : Nat} (h : a ∈ A i) : strip H A a = none := by unfold strip; rw [if_pos ⟨i, h⟩]
theorem strip_out {a : Addr} (h : ∀ i, a ∉ A i) : strip H A a = H a := by unfold strip; rw [if_neg (fun ⟨i, q⟩ => h i q)]
theorem strip_ex : Ex (strip H A) H := fun a o h => by
  by_cases q : ∃ i, a ∈ A i
  · obtain ⟨i, q⟩ := q
    rw [strip_in q] at h
    cases h
  · rw [strip_out fun i z => q ⟨i, z⟩] at h
    exact h
theorem SA.strip_of (h : SA K Hm H σ S A) (x : Ex H H') : Ex Hm (strip H' A) := fun a o q => by
  rw [strip_out]
  · exact x _ _ (h.ex a o q)
  · intro i hi
    rw [h.out i a hi] at q
    cases q
theorem SA.there (h : SA K Hm H σ S A) {i : Nat} {a : Addr} (ha : a ∈ A i) : ∃ o, H a = some o ∧ isImm o = false := by
  cases hs : S[i]? with
  | none => rw [h.empty i (.inl hs)] at ha; cases ha
  | some e =>
    by_cases he : e = .no
    · subst he
      rw [h.empty i (.inr hs)] at ha
      cases ha
    · obtain ⟨v, _, b⟩ := h.own i e hs he
      exact b.there a ha
theorem SA.grow (h : SA K Hm H σ S A) (x : Ex H H') : SA K (strip H' A) H' σ S A where
  ex := strip_ex
  len := h.len
  own := fun i e q n => by
    obtain ⟨v, a, b⟩ := h.own i e q n
    exact ⟨v, a, b.kept (h.strip_of x) fun c _ o z => x c o z⟩
  empty := h.empty
  sep := h.sep
  out := fun i a ha => strip_in ha
theorem SA.sqT (h : SA K Hm H σ S A) (x : Ex H H') : ∀ a ys, SqT K H' a ys → SqT K (strip H' A) a ys := fun a ys q => by
  have key : ∀ o, H' a = some o → isImm o = true → strip H' A a = some o := fun o ho hi => by
    rw [strip_out, ho]
    intro i ha
    obtain ⟨o', h1, h2⟩ := h.there ha
    rw [x _ _ h1] at ho
    cases ho
    rw [hi] at h2
    cases h2
  obtain ⟨i, q⟩ := q
  exact ⟨i, key _ q rfl⟩
/-- a slot anew -/
def setA (A : Nat → List Addr) (i : Nat) (as : List Addr) : Nat → List Addr := fun k => if k = i then as else A k
theorem setA_same {i : Nat} {as : List Addr} : setA A i as i = as := by unfold setA; rw [if_pos rfl]
theorem setA_ne {i k : Nat} {as : List Addr} (h : k ≠ i) : setA A i as k = A k := by unfold setA; rw [if_neg h]
theorem SA.put {i : Nat} {v : V} (h : SA K Hm H σ S A) (hi : i < S.length) (o : Own K e v Hm H as) (hs : ∀ j a, j ≠ i → a ∈ as → a ∈ A j → False) (ho : ∀ a ∈ as, Hm a = none) (hn : e = .no → as = []) : SA K Hm H (σ.set i (some v)) (S.set i e) (setA A i as) where
  ex := h.ex
  len := by simp [h.len]
  own := fun k e' q n => by
    by_cases hk : i = k
    · subst hk
      rw [List.getElem?_set_self hi] at q
      cases q
      exact ⟨v, by rw [List.getElem?_set_self (by rw [← h.len]; exact hi)], by rw [setA_same]; exact o⟩
    · rw [List.getElem?_set_ne hk] at q
      rw [List.getElem?_set_ne hk, setA_ne (Ne.symm hk)]
      exact h.own k e' q n
  empty := fun k q => by
    by_cases hk : i = k
    · subst hk
      rw [List.getElem?_set_self hi] at q
      rw [setA_same]
      rcases q with q | q
      · cases q
      · exact hn (Option.some.inj q)
    · rw [List.getElem?_set_ne hk] at q
      rw [setA_ne (Ne.symm hk)]
      exact h.empty k q
  sep := fun k j a hkj hk hj => by
    by_cases h1 : k = i
    · subst h1
      rw [setA_same] at hk
      rw [setA_ne (Ne.symm hkj)] at hj
      exact hs j a (Ne.symm hkj) hk hj
    · rw [setA_ne h1] at hk
      by_cases h2 : j = i
      · subst h2
        rw [setA_same] at hj
        exact hs k a h1 hj hk
      · rw [setA_ne h2] at hj
        exact h.sep k j a hkj hk hj
  out := fun k a ha => by
    by_cases h1 : k = i
    · subst h1
      rw [setA_same] at ha
      exact ho a ha
    · rw [setA_ne h1] at ha
      exact h.out k a ha
theorem SA.putIm {i : Nat} {d : D} (h : SA K Hm H σ S A) (hi : i < S.length) (r : Rp K Hm v d) : SA K Hm H (σ.set i (some v)) (S.set i (.im d)) (setA A i []) :=
  h.put (e := .im d) (as := []) hi ⟨r, rfl⟩ (fun _ _ _ z => by cases z) (fun _ z => by cases z) fun z => by cases z
/-- the base below: one address less (a new list) -/
theorem SA.less {p : Addr} (h : SA K Hm H σ S A) (hp : ∀ i, p ∉ A i) (hd : ∀ (i : Nat) e v, S[i]? = some e → e ≠ .no → σ[i]? = some (some v) → Own K e v Hm H (A i) → Own K e v (del Hm p) H (A i)) : SA K (del Hm p) H σ S A where
  ex := del_ex.trans h.ex
  len := h.len
  own := fun i e q n => by
    obtain ⟨v, a, b⟩ := h.own i e q n
    exact ⟨v, a, hd i e v q n a b⟩
  empty := h.empty
  sep := h.sep
  out := fun i a ha => by
    by_cases e : a = p
    · subst e; exact del_same
    · rw [del_ne e]; exact h.out i a ha
/-- an owned object is written -/
theorem SA.write {i : Nat} {a : Addr} {o : HO} {e' : Sl} {v : V} (h : SA K Hm H σ S A) (ha : a ∈ A i) (hv : σ[i]? = some (some v)) (ow : Own K e' v Hm (upd H a o) (A i)) (hn : e' ≠ .no) : SA K Hm (upd H a o) σ (S.set i e') A where
  ex := fun b u q => by
    have : b ≠ a := fun z => by subst z; rw [h.out i b ha] at q; cases q
    rw [upd_ne this]
    exact h.ex b u q
  len := by simp [h.len]
  own := fun k e q n => by
    by_cases hk : i = k
    · subst hk
      by_cases hi : i < S.length
      · rw [List.getElem?_set_self hi] at q
        cases q
        exact ⟨v, hv, ow⟩
      · rw [List.getElem?_eq_none (by simpa using hi)] at q
        cases q
    · rw [List.getElem?_set_ne hk] at q
      obtain ⟨v', x, y⟩ := h.own k e q n
      refine ⟨v', x, y.kept (Ex.refl _) fun c hc u z => ?_⟩
      have : c ≠ a := fun z => by subst z; exact h.sep i k c hk ha hc
      rw [upd_ne this]
      exact z
  empty := fun k q => by
    by_cases hk : i = k
    · subst hk
      by_cases hi : i < S.length
      · rw [List.getElem?_set_self hi] at q
        rcases q with q | q
        · cases q
        · exact absurd (Option.some.inj q) hn
      · exact h.empty i (.inl (List.getElem?_eq_none (by omega)))
    · rw [List.getElem?_set_ne hk] at q
      exact h.empty k q
  sep := h.sep
  out := h.out
end

/-! ### the state, over a base -/
def SB (K : PySem.W.Frag) (B H : Hp) (σ : L2.St) (S : SS) : Prop := ∃ Hm A, Ex B Hm ∧ SA K Hm H σ S A
theorem SB.mono {K : PySem.W.Frag} {B B' H : Hp} {σ : L2.St} {S : SS} (e : Ex B B') (h : SB K B' H σ S) : SB K B H σ S := let ⟨Hm, A, a, b⟩ := h; ⟨Hm, A, e.trans a, b⟩
theorem SB.ex {K : PySem.W.Frag} {B H : Hp} {σ : L2.St} {S : SS} (h : SB K B H σ S) : Ex B H := let ⟨_, _, a, b⟩ := h; a.trans b.ex
theorem SB.env {K : PySem.W.Frag} {B H : Hp} {σ : L2.St} {S : SS} (h : SB K B H σ S) : EnvOk K H σ (gm S) := let ⟨_, _, _, b⟩ := h; b.env
structure Post where
  nx : SS → Prop
  rt : VK
  bk : SS → Prop := fun _ => False
  ct : SS → Prop := fun _ => False
def Run (K : PySem.W.Frag) (B : Hp) (t : TS) (S : SS) (P : Post) : Prop :=
  ∀ B', Ex B B' → ∀ (D : Ends) σ H, SB K B' H σ S → (∀ σ' H' S', SB K B' H' σ' S' → P.nx S' → D.nx σ' H') → (∀ v H', P.rt v H' → D.rt v H') →
    (∀ σ' H' S', SB K B' H' σ' S' → P.bk S' → D.bk σ' H') → (∀ σ' H' S', SB K B' H' σ' S' → P.ct S' → D.ct σ' H') → t D σ H
section
variable {K : PySem.W.Frag} {B : Hp} {S : SS} {P : Post} {t u : TS} {te ta tb : TE} {tt : TT} {d d1 d2 : D} {ds es : List D} {i j : Nat} {b : Bool}
theorem run_nx (h : P.nx S) : Run K B tNext S P := fun B' e D σ H sb nx _ _ _ => nx σ H S sb h
theorem run_seq (h : Run K B t S { P with nx := fun S' => Run K B u S' P }) : Run K B (tSeq t u) S P := fun B' e D σ H sb nx rt bk ct =>
  h B' e { D with nx := u D } σ H sb (fun σ' H' S' sb' r => r B' e D σ' H' sb' nx rt bk ct) rt bk ct
theorem run_if (h : EvB K tt (gm S) b) (h1 : b = true → Run K B t S P) (h2 : b = false → Run K B u S P) : Run K B (tIfS tt t u) S P := fun B' e D σ H sb nx rt bk ct =>
  h σ H sb.env _ fun H1 e1 => by
    have sb1 : SB K B' H1 σ S := by
      obtain ⟨Hm, A, a, sa⟩ := sb
      exact ⟨_, A, a.trans (sa.strip_of e1), sa.grow e1⟩
    cases b with
    | true =>
      show t D σ H1
      exact h1 rfl B' e D σ H1 sb1 nx rt bk ct
    | false =>
      show u D σ H1
      exact h2 rfl B' e D σ H1 sb1 nx rt bk ct
theorem SB.grow {H H' : Hp} {σ : L2.St} (sb : SB K B H σ S) (e : Ex H H') : SB K B H' σ S := by
  obtain ⟨Hm, A, a, sa⟩ := sb
  exact ⟨_, A, a.trans (sa.strip_of e), sa.grow e⟩
/-- a value without lists is kept in a slot -/
theorem SB.putR {H H' : Hp} {σ : L2.St} {v : V} (sb : SB K B H σ S) (e : Ex H H') (n : noL d = true) (r : Rp K H' v d) (hi : i < S.length) : SB K B H' (σ.set i (some v)) (S.set i (.im d)) := by
  obtain ⟨Hm, A, a, sa⟩ := sb
  exact ⟨_, _, a.trans (sa.strip_of e), (sa.grow e).putIm hi (Rp.mapT (sa.sqT e) n r)⟩
theorem fresh_own {Hm H : Hp} {σ : L2.St} {A : Nat → List Addr} {p : Addr} (sa : SA K Hm H σ S A) (np : H p = none) : ∀ i, p ∉ A i := fun i hi => by
  obtain ⟨o, h1, _⟩ := sa.there hi
  rw [np] at h1
  cases h1
/-- a new list of one's own -/
theorem SB.putF {H H' : Hp} {σ : L2.St} {p : Addr} {vs : List V} (sb : SB K B H σ S) (e : Ex H H') (n : noLs ds = true) (np : H p = none) (hp : H' p = some (.lst vs)) (r : DpAll K H' vs ds) (hi : i < S.length) : SB K B H' (σ.set i (some (.ref p))) (S.set i (.ow ds)) := by
  obtain ⟨Hm, A, a, sa⟩ := sb
  have hA := fresh_own sa np
  have npm : Hm p = none := by
    cases q : Hm p with
    | none => rfl
    | some o => rw [sa.ex p o q] at np; cases np
  have e1 : Ex Hm (del (strip H' A) p) := fun c o q => by
    have : c ≠ p := fun z => by subst z; rw [npm] at q; cases q
    rw [del_ne this]
    exact sa.strip_of e c o q
  have sa1 : SA K (del (strip H' A) p) H' σ S A :=
    { ex := del_ex.trans strip_ex, len := sa.len, empty := sa.empty, sep := sa.sep
      own := fun i e' q m => by
        obtain ⟨v, x, y⟩ := sa.own i e' q m
        exact ⟨v, x, y.kept e1 fun c _ o z => e c o z⟩
      out := fun i c hc => by
        by_cases z : c = p
        · subst z; exact del_same
        · rw [del_ne z]; exact strip_in hc }
  have sp : strip H' A p = some (.lst vs) := by rw [strip_out hA]; exact hp
  refine ⟨_, _, a.trans e1, sa1.put (e := .ow ds) (as := [p]) hi ⟨p, vs, rfl, rfl, hp, ?_⟩ (fun k c _ hc hk => ?_) (fun c hc => ?_) (fun z => by cases z)⟩
  · exact DpAll.mapT (fun b ys q => del_sqT sp b ys (sa.sqT e b ys q)) ds vs n r
  · rw [List.mem_singleton.mp hc] at hk
    exact hA k hk
  · rw [List.mem_singleton.mp hc]; exact del_same
/-- a new list that will not change -/
theorem SB.putFi {H H' : Hp} {σ : L2.St} {p : Addr} {vs : List V} (sb : SB K B H σ S) (e : Ex H H') (n : noLs ds = true) (np : H p = none) (hp : H' p = some (.lst vs)) (r : DpAll K H' vs ds) (hi : i < S.length) : SB K B H' (σ.set i (some (.ref p))) (S.set i (.im (.list ds))) := by
  obtain ⟨Hm, A, a, sa⟩ := sb
  have hA := fresh_own sa np
  exact ⟨_, _, a.trans (sa.strip_of e), (sa.grow e).putIm hi (.inl (.lst (sq_of (by rw [strip_out hA]; exact hp)) (DpAll.mapT (sa.sqT e) ds vs n r)))⟩
theorem SB.putD {H H' : Hp} {σ : L2.St} {p : Addr} {kvs : List (Int × Int)} (sb : SB K B H σ S) (e : Ex H H') (np : H p = none) (hp : H' p = some (.dK (kvs.map kvV))) (hi : i < S.length) : SB K B H' (σ.set i (some (.ref p))) (S.set i (.dk kvs)) := by
  obtain ⟨Hm, A, a, sa⟩ := sb
  have hA := fresh_own sa np
  have npm : Hm p = none := by
    cases q : Hm p with
    | none => rfl
    | some o => rw [sa.ex p o q] at np; cases np
  have e1 : Ex Hm (del (strip H' A) p) := fun c o q => by
    have : c ≠ p := fun z => by subst z; rw [npm] at q; cases q
    rw [del_ne this]
    exact sa.strip_of e c o q
  have sa1 : SA K (del (strip H' A) p) H' σ S A :=
    { ex := del_ex.trans strip_ex, len := sa.len, empty := sa.empty, sep := sa.sep
      own := fun i e' q m => by
        obtain ⟨v, x, y⟩ := sa.own i e' q m
        exact ⟨v, x, y.kept e1 fun c _ o z => e c o z⟩
      out := fun i c hc => by
        by_cases z : c = p
        · subst z; exact del_same
        · rw [del_ne z]; exact strip_in hc }
  refine ⟨_, _, a.trans e1, sa1.put (e := .dk kvs) (as := [p]) hi ⟨p, rfl, rfl, hp⟩ (fun k c _ hc hk => ?_) (fun c hc => ?_) (fun z => by cases z)⟩
  · rw [List.mem_singleton.mp hc] at hk
    exact hA k hk
  · rw [List.mem_singleton.mp hc]; exact del_same
/-! name = value -/
theorem run_setR (h : EvR K te (gm S) d) (n : noL d = true) (hi : i < S.length) (k : P.nx (S.set i (.im d))) : Run K B (tAsg te (gName i)) S P := fun B' e D σ H sb nx rt bk ct =>
  h σ H sb.env _ fun v H1 e1 r1 => nx _ H1 _ (sb.putR e1 n r1 hi) k
theorem run_setF (h : EvF K te (gm S) ds) (n : noLs ds = true) (hi : i < S.length) (k : P.nx (S.set i (.ow ds))) : Run K B (tAsg te (gName i)) S P := fun B' e D σ H sb nx rt bk ct =>
  h σ H sb.env _ fun p vs H1 np e1 hp r1 => nx _ H1 _ (sb.putF e1 n np hp r1 hi) k
theorem run_setFi (h : EvF K te (gm S) ds) (n : noLs ds = true) (hi : i < S.length) (k : P.nx (S.set i (.im (.list ds)))) : Run K B (tAsg te (gName i)) S P := fun B' e D σ H sb nx rt bk ct =>
  h σ H sb.env _ fun p vs H1 np e1 hp r1 => nx _ H1 _ (sb.putFi e1 n np hp r1 hi) k
theorem run_setD {kvs : List (Int × Int)} (h : EvD K te (gm S) kvs) (hi : i < S.length) (k : P.nx (S.set i (.dk kvs))) : Run K B (tAsg te (gName i)) S P := fun B' e D σ H sb nx rt bk ct =>
  h σ H sb.env _ fun p H1 np e1 hp => nx _ H1 _ (sb.putD e1 np hp hi) k
/-! a, b = x, y -/
theorem run_parRR (ha : EvR K ta (gm S) d1) (hb : EvR K tb (gm S) d2) (n1 : noL d1 = true) (n2 : noL d2 = true) (hi : i < S.length) (hj : j < S.length) (k : P.nx ((S.set i (.im d1)).set j (.im d2))) : Run K B (tPar i j (tCons ta (tCons tb tNil))) S P := fun B' e D σ H sb nx rt bk ct =>
  ha σ H sb.env _ fun v H1 e1 r1 => hb σ H1 (sb.env.mono e1) _ fun w H2 e2 r2 => ⟨v, w, rfl, nx _ H2 _ ((sb.putR (e1.trans e2) n1 (r1.mono e2) hi).putR (Ex.refl H2) n2 r2 (by simpa using hj)) k⟩
theorem run_parRF (ha : EvR K ta (gm S) d1) (hb : EvF K tb (gm S) ds) (n1 : noL d1 = true) (n2 : noLs ds = true) (hi : i < S.length) (hj : j < S.length) (k : P.nx ((S.set i (.im d1)).set j (.ow ds))) : Run K B (tPar i j (tCons ta (tCons tb tNil))) S P := fun B' e D σ H sb nx rt bk ct =>
  ha σ H sb.env _ fun v H1 e1 r1 => hb σ H1 (sb.env.mono e1) _ fun p vs H2 np e2 hp r2 => ⟨v, _, rfl, nx _ H2 _ (((sb.putR e1 n1 r1 hi).putF e2 n2 np hp r2 (by simpa using hj))) k⟩
theorem run_parFR (ha : EvF K ta (gm S) ds) (hb : EvR K tb (gm S) d2) (n1 : noLs ds = true) (n2 : noL d2 = true) (hi : i < S.length) (hj : j < S.length) (k : P.nx ((S.set i (.ow ds)).set j (.im d2))) : Run K B (tPar i j (tCons ta (tCons tb tNil))) S P := fun B' e D σ H sb nx rt bk ct =>
  ha σ H sb.env _ fun p vs H1 np e1 hp r1 => hb σ H1 (sb.env.mono e1) _ fun w H2 e2 r2 => ⟨_, w, rfl, nx _ H2 _ (((sb.putF e1 n1 np hp r1 hi).putR e2 n2 r2 (by simpa using hj))) k⟩
/-! return -/
theorem run_retR (h : EvR K te (gm S) d) (k : ∀ v H', Ex B H' → Rp K H' v d → P.rt v H') : Run K B (tRet te) S P := fun B' e D σ H sb nx rt bk ct =>
  h σ H sb.env _ fun v H1 e1 r1 => rt v H1 (k v H1 ((e.trans sb.ex).trans e1) r1)
theorem run_retF (h : EvF K te (gm S) ds) (k : ∀ p vs H', B p = none → Ex B H' → H' p = some (.lst vs) → DpAll K H' vs ds → P.rt (.ref p) H') : Run K B (tRet te) S P := fun B' e D σ H sb nx rt bk ct =>
  h σ H sb.env _ fun p vs H1 np e1 hp r1 => rt _ H1 (k p vs H1 (fresh_back (e.trans sb.ex) np) ((e.trans sb.ex).trans e1) hp r1)
theorem run_retO (hs : S[i]? = some (.ow ds)) (k : ∀ p vs H', B p = none → Ex B H' → H' p = some (.lst vs) → DpAll K H' vs ds → P.rt (.ref p) H') : Run K B (tRet (tVar i)) S P := fun B' e D σ H sb nx rt bk ct => by
  have ex := sb.ex
  obtain ⟨Hm, A, a, sa⟩ := sb
  obtain ⟨v, h1, h2⟩ := sa.own i _ hs (by intro z; cases z)
  obtain ⟨l, vs, rfl, hA, hl, hd⟩ := h2
  have npm : Hm l = none := sa.out i l (by rw [hA]; simp)
  exact ⟨_, h1, rt _ H (k l vs H (fresh_back (e.trans a) npm) (e.trans ex) hl (DpAll.mono sa.ex hd))⟩
theorem run_retOD {kvs : List (Int × Int)} (hs : S[i]? = some (.dk kvs)) (k : ∀ p H', B p = none → Ex B H' → H' p = some (.dK (kvs.map kvV)) → P.rt (.ref p) H') : Run K B (tRet (tVar i)) S P := fun B' e D σ H sb nx rt bk ct => by
  have ex := sb.ex
  obtain ⟨Hm, A, a, sa⟩ := sb
  obtain ⟨v, h1, h2⟩ := sa.own i _ hs (by intro z; cases z)
  obtain ⟨l, rfl, hA, hl⟩ := h2
  have npm : Hm l = none := sa.out i l (by rw [hA]; simp)
  exact ⟨_, h1, rt _ H (k l H (fresh_back (e.trans a) npm) (e.trans ex) hl)⟩
/-! x += e -/
theorem run_aug {f : Int → Int → Int} {a c : Int} (hx : (gm S)[i]? = some (some (.int a))) (h : EvR K te (gm S) (.int c)) (hi : i < S.length) (k : P.nx (S.set i (.im (.int (f a c))))) : Run K B (tAug i te (ipI f)) S P := fun B' e D σ H sb nx rt bk ct => by
  obtain ⟨v, h1, h2⟩ := sb.env.2 i _ hx
  rw [h2.int] at h1
  exact ⟨_, h1, h σ H sb.env _ fun v H1 e1 r1 => ⟨a, c, rfl, r1.int, nx _ H1 _ (sb.putR e1 (d := .int (f a c)) rfl (.inl (.int _)) hi) k⟩⟩
/-! lists of one's own -/
theorem run_app (hs : S[i]? = some (.ow ds)) (h : EvR K te (gm S) d) (n : noL d = true) (hz : ds.length < 100000) (k : P.nx (S.set i (.ow (ds ++ [d])))) : Run K B (tDrop (tBM K "list" rAppend (tVar i) (tCons te tNil))) S P := fun B' e D σ H sb nx rt bk ct => by
  obtain ⟨Hm, A, a, sa⟩ := sb
  obtain ⟨v, h1, h2⟩ := sa.own i _ hs (by intro z; cases z)
  obtain ⟨l, vs, rfl, hA, hl, hd⟩ := h2
  refine ⟨_, h1, .inl ⟨rfl, _, SqL.of hl⟩, h σ H sa.env _ fun v H1 e1 r1 => ?_⟩
  have sa1 := sa.grow e1
  have r2 := Rp.mapT (sa.sqT e1) n r1
  have hl1 := e1 _ _ hl
  have hlA : l ∈ A i := by rw [hA]; simp
  have hd1 := DpAll.mono (sa.strip_of e1) hd
  refine ⟨l, vs, v, rfl, rfl, hl1, sz_lt (by rw [DpAll.length hd]; exact hz), nx _ _ _ ⟨_, A, a.trans (sa.strip_of e1), sa1.write (e' := .ow (ds ++ [d])) hlA h1 ⟨l, vs ++ [v], rfl, hA, upd_same, DpAll.append hd1 (.cons (r2.dp (noL_dict n)) .nil)⟩ (by intro z; cases z)⟩ k⟩
/-- a new list is appended -/
theorem run_appF (hs : S[i]? = some (.ow ds)) (h : EvF K te (gm S) es) (n : noLs es = true) (hz : ds.length < 100000) (k : P.nx (S.set i (.ow (ds ++ [.list es])))) : Run K B (tDrop (tBM K "list" rAppend (tVar i) (tCons te tNil))) S P := fun B' e D σ H sb nx rt bk ct => by
  obtain ⟨Hm, A, a, sa⟩ := sb
  obtain ⟨v, h1, h2⟩ := sa.own i _ hs (by intro z; cases z)
  obtain ⟨l, vs, rfl, hA, hl, hd⟩ := h2
  refine ⟨_, h1, .inl ⟨rfl, _, SqL.of hl⟩, h σ H sa.env _ fun p ws H1 np e1 hp r1 => ?_⟩
  have sa1 := sa.grow e1
  have hl1 := e1 _ _ hl
  have hlA : l ∈ A i := by rw [hA]; simp
  have hd1 := DpAll.mono (sa.strip_of e1) hd
  have r2 : Dp K (strip H1 A) (.ref p) (.list es) := .lst (sq_of (by rw [strip_out (fresh_own sa np)]; exact hp)) (DpAll.mapT (sa.sqT e1) es ws n r1)
  refine ⟨l, vs, _, rfl, rfl, hl1, sz_lt (by rw [DpAll.length hd]; exact hz), nx _ _ _ ⟨_, A, a.trans (sa.strip_of e1), sa1.write (e' := .ow (ds ++ [.list es])) hlA h1 ⟨l, vs ++ [.ref p], rfl, hA, upd_same, DpAll.append hd1 (.cons r2 .nil)⟩ (by intro z; cases z)⟩ k⟩
/-- xs[i], xs[j] = x, y -/
theorem run_swap {t1 t2 : TE} {k1 k2 : Int} {j1 j2 : Nat} (hs : S[i]? = some (.ow ds)) (ha : EvR K ta (gm S) d1) (hb : EvR K tb (gm S) d2) (n1 : noL d1 = true) (n2 : noL d2 = true) (h1 : EvR K t1 (gm S) (.int k1)) (hj1 : ixN ds.length k1 = some j1)
    (h2 : EvR K t2 (gm (S.set i (.ow (ds.set j1 d1)))) (.int k2)) (hj2 : ixN ds.length k2 = some j2) (k : P.nx (S.set i (.ow ((ds.set j1 d1).set j2 d2)))) :
    Run K B (tAsg (tTup (tCons ta (tCons tb tNil))) (gTup K 2 (gCons (gSub (tVar i) t1 rSetL) (gCons (gSub (tVar i) t2 rSetL) gNil)))) S P := fun B' e D σ H sb nx rt bk ct => by
  obtain ⟨Hm, A, a, sa⟩ := sb
  obtain ⟨v, hv, ho⟩ := sa.own i _ hs (by intro z; cases z)
  obtain ⟨l, vs, rfl, hA, hl, hd⟩ := ho
  have hiS : i < S.length := (List.getElem?_eq_some_iff.mp hs).1
  refine ha σ H sa.env _ fun x H1 e1 r1 => hb σ H1 (sa.env.mono e1) _ fun y H2 e2 r2 => ⟨by show 2 ≤ sizeLine; decide, fun {its} q hq => ?_⟩
  have e12 := e1.trans e2
  have e3 : Ex H (upd H2 q (XT its [x, y])) := e12.trans (Ex.new hq)
  refine ⟨q, [x, y], rfl, (st_of upd_same).t (K := K), rfl, x, [y], rfl, ?_⟩
  -- the first store
  generalize hH3 : upd H2 q (XT its [x, y]) = H3 at e3
  have e23 : Ex H2 H3 := by rw [← hH3]; exact Ex.new hq
  have sa3 := sa.grow e3
  have hlA : l ∈ A i := by rw [hA]; simp
  have x3 := Rp.mapT (sa.sqT e3) n1 ((r1.mono e2).mono e23)
  have y3 := Rp.mapT (sa.sqT e3) n2 (r2.mono e23)
  have hd3 := DpAll.mono (sa.strip_of e3) hd
  refine ⟨_, hv, h1 σ H3 sa3.env _ fun z H4 e4 r4 => ?_⟩
  rw [r4.int]
  have e34 := e4
  have sa4 := sa3.grow e34
  have x4 := x3.mono (sa3.strip_of e34)
  have y4 := y3.mono (sa3.strip_of e34)
  have hd4 := DpAll.mono (sa3.strip_of e34) hd3
  have hl4 : H4 l = some (.lst vs) := e34 _ _ (e3 _ _ hl)
  refine ⟨l, vs, k1, j1, rfl, rfl, hl4, by rw [DpAll.length hd]; exact hj1, ?_⟩
  have sa5 : SA K (strip H4 A) (upd H4 l (.lst (vs.set j1 x))) σ (S.set i (.ow (ds.set j1 d1))) A :=
    sa4.write (e' := .ow (ds.set j1 d1)) hlA hv ⟨l, vs.set j1 x, rfl, hA, upd_same, DpAll.set j1 hd4 (x4.dp (noL_dict n1))⟩ (by intro z; cases z)
  refine ⟨y, [], rfl, _, hv, h2 σ _ sa5.env _ fun z H6 e6 r6 => ?_⟩
  rw [r6.int]
  have sa6 := sa5.grow e6
  have hl6 : H6 l = some (.lst (vs.set j1 x)) := e6 _ _ upd_same
  refine ⟨l, vs.set j1 x, k2, j2, rfl, rfl, hl6, by rw [List.length_set, DpAll.length hd]; exact hj2, rfl, ?_⟩
  have y6 := y4.mono (sa5.strip_of e6)
  have hd6 := DpAll.mono (sa5.strip_of e6) (DpAll.set j1 hd4 (x4.dp (noL_dict n1)))
  have sa7 : SA K (strip H6 A) (upd H6 l (.lst ((vs.set j1 x).set j2 y))) σ ((S.set i (.ow (ds.set j1 d1))).set i (.ow ((ds.set j1 d1).set j2 d2))) A :=
    sa6.write (e' := .ow ((ds.set j1 d1).set j2 d2)) hlA hv ⟨l, (vs.set j1 x).set j2 y, rfl, hA, upd_same, DpAll.set j2 hd6 (y6.dp (noL_dict n2))⟩ (by intro z; cases z)
  rw [List.set_set] at sa7
  exact nx _ _ _ ⟨_, A, ((a.trans (sa.strip_of e3)).trans (sa3.strip_of e34)).trans (sa5.strip_of e6), sa7⟩ k
/-- xs[i] = x -/
theorem run_put {t1 : TE} {k1 : Int} {j1 : Nat} (hs : S[i]? = some (.ow ds)) (ha : EvR K ta (gm S) d1) (n1 : noL d1 = true) (h1 : EvR K t1 (gm S) (.int k1)) (hj1 : ixN ds.length k1 = some j1)
    (k : P.nx (S.set i (.ow (ds.set j1 d1)))) : Run K B (tAsg ta (gSub (tVar i) t1 rSetL)) S P := fun B' e D σ H sb nx rt bk ct => by
  obtain ⟨Hm, A, a, sa⟩ := sb
  obtain ⟨v, hv, ho⟩ := sa.own i _ hs (by intro z; cases z)
  obtain ⟨l, vs, rfl, hA, hl, hd⟩ := ho
  refine ha σ H sa.env _ fun x H1 e1 r1 => ⟨_, hv, h1 σ H1 (sa.env.mono e1) _ fun z H4 e4 r4 => ?_⟩
  rw [r4.int]
  have e14 := e1.trans e4
  have sa4 := sa.grow e14
  have hlA : l ∈ A i := by rw [hA]; simp
  have x4 := Rp.mapT (sa.sqT e14) n1 (r1.mono e4)
  have hd4 := DpAll.mono (sa.strip_of e14) hd
  have hl4 : H4 l = some (.lst vs) := e14 _ _ hl
  refine ⟨l, vs, k1, j1, rfl, rfl, hl4, by rw [DpAll.length hd]; exact hj1, ?_⟩
  exact nx _ _ _ ⟨_, A, a.trans (sa.strip_of e14), sa4.write (e' := .ow (ds.set j1 d1)) hlA hv ⟨l, vs.set j1 x, rfl, hA, upd_same, DpAll.set j1 hd4 (x4.dp (noL_dict n1))⟩ (by intro z; cases z)⟩ k
/-! loops -/
theorem run_while (W : Nat → SS → Prop) (m0 : Nat) (h0 : W m0 S)
    (hs : ∀ m S', W m S' → ∃ b, EvB K tt (gm S') b ∧ (b = true → Run K B t S' { P with nx := fun S'' => ∃ m', m' < m ∧ W m' S'', ct := fun S'' => ∃ m', m' < m ∧ W m' S'', bk := P.nx }) ∧ (b = false → P.nx S')) : Run K B (tWhile tt t) S P := fun B' e D σ H sb nx rt bk ct => by
  refine ⟨fun m σ H => ∃ S', SB K B' H σ S' ∧ W m S', ⟨m0, S, sb, h0⟩, ?_⟩
  rintro m σ1 H1 ⟨S', sb', w⟩
  obtain ⟨b, hb, h1, h2⟩ := hs m S' w
  refine hb σ1 H1 sb'.env _ fun H2 e2 => ?_
  have sb2 := sb'.grow e2
  cases b with
  | true =>
    refine iteT ⟨fun σ2 H3 => ∃ m' S'', SB K B' H3 σ2 S'' ∧ m' < m ∧ W m' S'', ?_, ?_⟩
    · rintro σ2 H3 ⟨m', S'', q1, q2, q3⟩
      exact ⟨m', q2, S'', q1, q3⟩
    · refine h1 rfl B' e _ σ1 H2 sb2 ?_ rt nx ?_
      · rintro σ2 H3 S'' q1 ⟨m', q2, q3⟩
        exact ⟨m', S'', q1, q2, q3⟩
      · rintro σ2 H3 S'' q1 ⟨m', q2, q3⟩
        exact ⟨m', S'', q1, q2, q3⟩
  | false => exact iteF (nx _ _ _ sb2 (h2 rfl))
/-- what a for walks, in a state -/
def EvItS (K : PySem.W.Frag) (wi : TI) (S : SS) (ds : List D) : Prop :=
  ∀ Hm H σ A, SA K Hm H σ S A → ∀ R : It → Hp → Prop, (∀ J Hm' H', Ex Hm Hm' → SA K Hm' H' σ S A → WalksD K J Hm' ds → R J H') → wi σ H R
theorem its_rng1 {ta : TA} {n : Int} (h : EvAs K ta (gm S) [.int n]) (hn : -(2 ^ 62) ≤ n ∧ n < 2 ^ 62) : EvItS K (iRng1 ta) S ((rgI 0 n.toNat).map .int) := fun Hm H σ A sa R q =>
  h σ H sa.env _ fun vs H1 e1 r => by
    obtain ⟨v, rfl, r1⟩ := rp1 r
    exact ⟨n, by rw [r1.int], hn.1, hn.2, q _ _ H1 (sa.strip_of e1) (sa.grow e1) (walks_rng _ 0 n.toNat)⟩
theorem its_rng2 {ta : TA} {lo n : Int} (h : EvAs K ta (gm S) [.int lo, .int n]) (hn : -(2 ^ 62) ≤ lo ∧ lo < 2 ^ 62 ∧ -(2 ^ 62) ≤ n ∧ n < 2 ^ 62) : EvItS K (iRng2 ta) S ((rgI lo (n - lo).toNat).map .int) := fun Hm H σ A sa R q =>
  h σ H sa.env _ fun vs H1 e1 r => by
    obtain ⟨v, w, rfl, r1, r2⟩ := rp2 r
    exact ⟨lo, n, by rw [r1.int, r2.int], hn, q _ _ H1 (sa.strip_of e1) (sa.grow e1) (walks_rng _ lo _)⟩
theorem its_tup (h : EvR K te (gm S) (.tuple ds)) (n : noLs ds = true) : EvItS K (iTup K te) S ds := fun Hm H σ A sa R q =>
  h σ H sa.env _ fun v H1 e1 r => by
    obtain ⟨a, vs, rfl, hs, hd⟩ := r.tup
    exact ⟨a, rfl, ⟨vs, hs⟩, q _ _ H1 (sa.strip_of e1) (sa.grow e1) (walks_tup (sa.sqT e1 _ _ hs) (DpAll.mapT (sa.sqT e1) _ _ n hd))⟩
theorem its_lst (hs : S[i]? = some (.im (.list ds))) : EvItS K (iList K (tVar i)) S ds := fun Hm H σ A sa R q => by
  obtain ⟨v, h1, h2⟩ := sa.own i _ hs (by intro z; cases z)
  obtain ⟨a, vs, rfl, hl, hd⟩ := h2.1.lst
  exact ⟨_, h1, a, rfl, ⟨vs, ex_l sa.ex hl⟩, q _ Hm H (Ex.refl _) sa (walks_lst hl hd)⟩
/-- over a new list -/
theorem its_new (h : EvF K te (gm S) ds) (n : noLs ds = true) : EvItS K (iList K te) S ds := fun Hm H σ A sa R q =>
  h σ H sa.env _ fun p vs H1 np e1 hp hd => by
    have hl : strip H1 A p = some (.lst vs) := by rw [strip_out (fresh_own sa np)]; exact hp
    exact ⟨p, rfl, ⟨vs, sq_of hp⟩, q _ _ H1 (sa.strip_of e1) (sa.grow e1) (walks_lst (sq_of hl) (DpAll.mapT (sa.sqT e1) _ _ n hd))⟩
def setS (S : SS) (js : List (Nat × D)) : SS := js.foldl (fun S p => S.set p.1 (.im p.2)) S
theorem JW.sa {Hm H : Hp} : ∀ {ws : List (Nat × V)} {js : List (Nat × D)} {σ : L2.St} {S : SS} {A : Nat → List Addr}, JW K Hm ws js → (∀ p ∈ js, p.1 < S.length) → SA K Hm H σ S A → ∃ A', SA K Hm H (setW σ ws) (setS S js) A'
  | _, _, _, _, A, .nil, _, sa => ⟨A, sa⟩
  | _, _, σ, S, A, .cons (a := w) (b := j) h t, hl, sa => by
    obtain ⟨h1, h2⟩ := h
    have sa1 := sa.putIm (hl j List.mem_cons_self) h2
    show ∃ A', SA K Hm H (setW (σ.set w.1 (some w.2)) _) (setS (S.set j.1 (.im j.2)) _) A'
    rw [h1]
    exact JW.sa t (fun p hp => by simpa using hl p (List.mem_cons_of_mem _ hp)) sa1
theorem run_for {α : Type} {wi : TI} {g : TG} (src : List α) (emb : α → D) (jd : α → List (Nat × D)) (hi : EvItS K wi S (src.map emb)) (hg : ∀ a ∈ src, Tg K g (emb a) (jd a)) (J : Nat → SS → Prop) (h0 : J 0 S)
    (hjl : ∀ (i : Nat) a S', src[i]? = some a → J i S' → ∀ p ∈ jd a, p.1 < S'.length)
    (hs : ∀ (i : Nat) a S', src[i]? = some a → J i S' → Run K B t (setS S' (jd a)) { P with nx := J (i + 1), ct := J (i + 1), bk := P.nx }) (hd : ∀ S', J src.length S' → P.nx S') : Run K B (tFor wi g t) S P := fun B' e D σ H sb nx rt bk ct => by
  obtain ⟨Hm, A, a, sa⟩ := sb
  refine hi Hm H σ A sa _ fun It Hm' H1 em sa1 w => ?_
  have eB : Ex B' Hm' := a.trans em
  refine ⟨fun i m σ H => m = src.length - i ∧ i ≤ src.length ∧ ∃ S', SB K Hm' H σ S' ∧ J i S', ⟨src.length, by simp, Nat.zero_le _, S, ⟨Hm', A, Ex.refl _, sa1⟩, h0⟩, ?_⟩
  rintro i m σ2 H2 ⟨rfl, hi', S', sb', j'⟩
  obtain ⟨w1, w2⟩ := w H2 sb'.ex
  by_cases hlt : i < src.length
  · have hsrc : src[i]? = some src[i] := List.getElem?_eq_getElem hlt
    obtain ⟨go, step⟩ := w1 i (emb src[i]) (by rw [List.getElem?_map, hsrc]; rfl)
    refine .inr ⟨go, fun σ H => ∃ S', SB K Hm' H σ S' ∧ J (i + 1) S', fun σ H p => ⟨src.length - (i + 1), by omega, rfl, hlt, p⟩, fun x H3 y => ?_⟩
    obtain ⟨e3, rx⟩ := step x H3 y
    obtain ⟨ws, jw, gq⟩ := hg _ (List.getElem_mem hlt) x Hm' rx
    refine gq H3 (sb'.ex.trans e3) _ _ ?_
    have sb3 := sb'.grow e3
    obtain ⟨Hm3, A3, a3, sa3⟩ := sb3
    obtain ⟨A4, sa4⟩ := (jw.mono a3).sa (hjl i _ S' hsrc j') sa3
    refine hs i _ S' hsrc j' Hm' (e.trans eB) _ _ H3 ⟨Hm3, A4, a3, sa4⟩ ?_ rt ?_ ?_
    · intro σ5 H5 S5 q1 q2
      exact ⟨S5, q1, q2⟩
    · intro σ5 H5 S5 q1 q2
      exact nx _ _ _ (q1.mono eB) q2
    · intro σ5 H5 S5 q1 q2
      exact ⟨S5, q1, q2⟩
  · have hii : i = src.length := by omega
    subst hii
    rw [List.length_map] at w2
    exact .inl ⟨w2, nx _ _ _ (sb'.mono eB) (hd S' j')⟩
/-- the loop as a fold -/
theorem run_for_fold {α β : Type} {wi : TI} {g : TG} (src : List α) (emb : α → D) (jd : α → List (Nat × D)) (hi : EvItS K wi S (src.map emb)) (hg : ∀ a ∈ src, Tg K g (emb a) (jd a)) (J : β → SS → Prop) (f : β → α → β) (b0 : β) (h0 : J b0 S)
    (hjl : ∀ b a S', a ∈ src → J b S' → ∀ p ∈ jd a, p.1 < S'.length)
    (hs : ∀ (i : Nat) b a S', src[i]? = some a → b = (src.take i).foldl f b0 → J b S' → Run K B t (setS S' (jd a)) { P with nx := J (f b a), ct := J (f b a), bk := P.nx }) (hd : ∀ S', J (src.foldl f b0) S' → P.nx S') : Run K B (tFor wi g t) S P := by
  refine run_for src emb jd hi hg (fun i S' => J ((src.take i).foldl f b0) S') h0 (fun i a S' q j => hjl _ a S' (List.mem_of_getElem? q) j) (fun i a S' q j => ?_) (fun S' j => hd S' (by rw [List.take_length] at j; exact j))
  have := hs i _ a S' q rfl j
  have e : (src.take (i + 1)).foldl f b0 = f ((src.take i).foldl f b0) a := by
    rw [List.take_add_one, q, List.foldl_append]
    rfl
  rw [e]
  exact this
end
/-! ### the post is weakened -/
theorem Run.imp {K : PySem.W.Frag} {B : Hp} {t : TS} {S : SS} {P P' : Post} (h : Run K B t S P) (n : ∀ S', P.nx S' → P'.nx S') (r : ∀ v H, P.rt v H → P'.rt v H) (b : ∀ S', P.bk S' → P'.bk S') (c : ∀ S', P.ct S' → P'.ct S') : Run K B t S P' := fun B' e D σ H sb nx rt bk ct =>
  h B' e D σ H sb (fun σ' H' S' q z => nx σ' H' S' q (n S' z)) (fun v H' z => rt v H' (r v H' z)) (fun σ' H' S' q z => bk σ' H' S' q (b S' z)) (fun σ' H' S' q z => ct σ' H' S' q (c S' z))
end KW

set_option Elab.async false
set_option linter.all false
set_option maxRecDepth 100000
set_option maxHeartbeats 4000000
/-! promises of defs by data; dicts of ints -/
namespace KW
open PySem PySem.Spec PyProof.Rows L2 Evl

/-- hands back data -/
def spR (K : PySem.W.Frag) (F : List D → D → Prop) : Sp := fun vs H Q _ => ∃ ds d, RpAll K H vs ds ∧ F ds d ∧ ∀ v H', Ex H H' → Rp K H' v d → Q v H'
/-- hands back a new list -/
def spF (K : PySem.W.Frag) (F : List D → List D → Prop) : Sp := fun vs H Q _ => ∃ ds es, RpAll K H vs ds ∧ F ds es ∧ ∀ p ws H', H p = none → Ex H H' → H' p = some (.lst ws) → DpAll K H' ws es → Q (.ref p) H'
/-- hands back a new dict -/
def spD (K : PySem.W.Frag) (F : List D → List (Int × Int) → Prop) : Sp := fun vs H Q _ => ∃ ds es, RpAll K H vs ds ∧ F ds es ∧ ∀ p H', H p = none → Ex H H' → H' p = some (.dK (es.map kvV)) → Q (.ref p) H'
section
variable {K : PySem.W.Frag} {Γ : G} {ta : TA} {ds es : List D} {d : D} {E : XK}
theorem ev_call {F : List D → D → Prop} (h : EvAs K ta Γ ds) (hF : F ds d) : EvR K (tCall (spR K F) [] E ta) Γ d := fun σ H Ev Q q => h σ H Ev _ fun vs H1 e1 r1 => by
  show spR K F (vs ++ []) H1 Q E
  rw [List.append_nil]
  exact ⟨ds, d, r1, hF, fun v H' e2 r2 => q v H' (e1.trans e2) r2⟩
theorem ef_call {F : List D → List D → Prop} (h : EvAs K ta Γ ds) (hF : F ds es) : EvF K (tCall (spF K F) [] E ta) Γ es := fun σ H Ev Q q => h σ H Ev _ fun vs H1 e1 r1 => by
  show spF K F (vs ++ []) H1 Q E
  rw [List.append_nil]
  exact ⟨ds, es, r1, hF, fun p ws H' n e2 hp r2 => q p ws H' (fresh_back e1 n) (e1.trans e2) hp r2⟩
theorem ed_call {F : List D → List (Int × Int) → Prop} {kvs : List (Int × Int)} (h : EvAs K ta Γ ds) (hF : F ds kvs) : EvD K (tCall (spD K F) [] E ta) Γ kvs := fun σ H Ev Q q => h σ H Ev _ fun vs H1 e1 r1 => by
  show spD K F (vs ++ []) H1 Q E
  rw [List.append_nil]
  exact ⟨ds, kvs, r1, hF, fun p H' n e2 hp => q p H' (fresh_back e1 n) (e1.trans e2) hp⟩
end

/-! ### the start of a def -/
def initS (n : Nat) (ds : List D) : SS := ds.map Sl.im ++ List.replicate (n - ds.length) Sl.no
theorem start_sb {K : PySem.W.Frag} {H : Hp} {N : List Str} {vs : List V} {ds : List D} (r : RpAll K H vs ds) : SB K H H (L2.start N vs) (initS N.length ds) := by
  have hl := Paired.length r
  refine ⟨H, fun _ => [], Ex.refl H, ⟨Ex.refl H, ?_, fun i e q n => ?_, fun _ _ => rfl, fun _ _ _ _ z => (by cases z), fun _ _ z => (by cases z)⟩⟩
  · simp [initS, L2.start, hl]
  · unfold initS at q
    by_cases hi : i < ds.length
    · rw [List.getElem?_append_left (by simpa using hi), List.getElem?_map, List.getElem?_eq_getElem hi] at q
      cases q
      have key : ∀ {vs : List V} {ds : List D} {j : Nat} {d : D}, RpAll K H vs ds → ds[j]? = some d → ∃ v, vs[j]? = some v ∧ Rp K H v d := by
        intro vs ds j d h
        induction h generalizing j with
        | nil => intro e; simp at e
        | cons a b ih =>
          intro e
          cases j with
          | zero => simp at e; subst e; exact ⟨_, rfl, a⟩
          | succ j =>
            obtain ⟨v, h1, h2⟩ := ih (by simpa using e)
            exact ⟨v, by simpa using h1, h2⟩
      obtain ⟨v, h1, h2⟩ := key r (List.getElem?_eq_getElem hi)
      refine ⟨v, ?_, h2, rfl⟩
      unfold L2.start
      rw [List.getElem?_append_left (by simpa [hl] using hi), List.getElem?_map, h1]
      rfl
    · rw [List.getElem?_append_right (by simpa using hi)] at q
      have := List.mem_of_getElem? q
      exact absurd (List.mem_replicate.mp this).2 n
section
variable {P : Program} {w : World} {K : PySem.W.Frag} {mg : Str → Option Value} {base : Heap} {x qual : Str} {st : Stmt} {f : Addr} {fd : FuncData} {N ps : List Str} {k : Nat}
abbrev rtR (K : PySem.W.Frag) (B : Hp) (d : D) : VK := fun v H' => Ex B H' ∧ Rp K H' v d
abbrev rtF (K : PySem.W.Frag) (B : Hp) (ds : List D) : VK := fun v H' => ∃ p vs, v = .ref p ∧ B p = none ∧ Ex B H' ∧ H' p = some (.lst vs) ∧ DpAll K H' vs ds
abbrev rtD (K : PySem.W.Frag) (B : Hp) (kvs : List (Int × Int)) : VK := fun v H' => ∃ p, v = .ref p ∧ B p = none ∧ Ex B H' ∧ H' p = some (.dK (kvs.map kvV))
/-- the body with its term, and what it does by data -/
theorem def_R (F : Fun K x qual st f fd) (S : FnScope N ps (defScope st)) (Fr : List D → D → Prop) (hl : ∀ ds d, Fr ds d → ds.length = ps.length)
    (hb : ∀ (cdv : Value) (A : Around) (outer : List Env) (s : Shared) (H : Hp) (E : XK), Room k (A.deeper (envOfC qual (defScope st) s.heap.objs.size f cdv)) →
      ∃ t, PSs (cxOf CX0 P w K mg base N qual (defScope st) f cdv A outer s H E).nox (defBody st) t ∧ ∀ ds d, Fr ds d → ∀ B, Run K B t (initS N.length ds) { nx := fun _ => False, rt := rtR K B d }) : FnOk P w K mg base CX0 (k + 1) f fd ps (spR K Fr) := by
  refine F.ok S (fun vs H Q E h => ?_) (fun cdv A outer s H vs Q E hr h => ?_)
  · obtain ⟨ds, d, r, q, _⟩ := h
    rw [Paired.length r]
    exact hl ds d q
  · obtain ⟨ds, d, r, q, z⟩ := h
    obtain ⟨t, ht, hrun⟩ := hb cdv A outer s H E hr
    exact ⟨t, ht, hrun ds d q H H (Ex.refl H) _ _ H (start_sb r) (fun _ _ _ _ z => z.elim) (fun v H' y => z v H' y.1 y.2) (fun _ _ _ _ z => z.elim) (fun _ _ _ _ z => z.elim)⟩
theorem def_F (F : Fun K x qual st f fd) (S : FnScope N ps (defScope st)) (Fr : List D → List D → Prop) (hl : ∀ ds d, Fr ds d → ds.length = ps.length)
    (hb : ∀ (cdv : Value) (A : Around) (outer : List Env) (s : Shared) (H : Hp) (E : XK), Room k (A.deeper (envOfC qual (defScope st) s.heap.objs.size f cdv)) →
      ∃ t, PSs (cxOf CX0 P w K mg base N qual (defScope st) f cdv A outer s H E).nox (defBody st) t ∧ ∀ ds d, Fr ds d → ∀ B, Run K B t (initS N.length ds) { nx := fun _ => False, rt := rtF K B d }) : FnOk P w K mg base CX0 (k + 1) f fd ps (spF K Fr) := by
  refine F.ok S (fun vs H Q E h => ?_) (fun cdv A outer s H vs Q E hr h => ?_)
  · obtain ⟨ds, d, r, q, _⟩ := h
    rw [Paired.length r]
    exact hl ds d q
  · obtain ⟨ds, d, r, q, z⟩ := h
    obtain ⟨t, ht, hrun⟩ := hb cdv A outer s H E hr
    exact ⟨t, ht, hrun ds d q H H (Ex.refl H) _ _ H (start_sb r) (fun _ _ _ _ z => z.elim) (fun v H' ⟨p, vs', e, y1, y2, y3, y4⟩ => by subst e; exact z p vs' H' y1 y2 y3 y4) (fun _ _ _ _ z => z.elim) (fun _ _ _ _ z => z.elim)⟩
theorem def_D (F : Fun K x qual st f fd) (S : FnScope N ps (defScope st)) (Fr : List D → List (Int × Int) → Prop) (hl : ∀ ds d, Fr ds d → ds.length = ps.length)
    (hb : ∀ (cdv : Value) (A : Around) (outer : List Env) (s : Shared) (H : Hp) (E : XK), Room k (A.deeper (envOfC qual (defScope st) s.heap.objs.size f cdv)) →
      ∃ t, PSs (cxOf CX0 P w K mg base N qual (defScope st) f cdv A outer s H E).nox (defBody st) t ∧ ∀ ds d, Fr ds d → ∀ B, Run K B t (initS N.length ds) { nx := fun _ => False, rt := rtD K B d }) : FnOk P w K mg base CX0 (k + 1) f fd ps (spD K Fr) := by
  refine F.ok S (fun vs H Q E h => ?_) (fun cdv A outer s H vs Q E hr h => ?_)
  · obtain ⟨ds, d, r, q, _⟩ := h
    rw [Paired.length r]
    exact hl ds d q
  · obtain ⟨ds, d, r, q, z⟩ := h
    obtain ⟨t, ht, hrun⟩ := hb cdv A outer s H E hr
    exact ⟨t, ht, hrun ds d q H H (Ex.refl H) _ _ H (start_sb r) (fun _ _ _ _ z => z.elim) (fun v H' ⟨p, e, y1, y2, y3⟩ => by subst e; exact z p H' y1 y2 y3) (fun _ _ _ _ z => z.elim) (fun _ _ _ _ z => z.elim)⟩
end
/-! returns in the forms that the defs want -/
section
variable {K : PySem.W.Frag} {B : Hp} {S : SS} {te : TE} {d : D} {ds : List D} {i : Nat} {kvs : List (Int × Int)} {nx bk ct : SS → Prop}
theorem ret_R (h : EvR K te (gm S) d) : Run K B (tRet te) S ⟨nx, rtR K B d, bk, ct⟩ := run_retR h fun v H' e r => ⟨e, r⟩
theorem ret_F (h : EvF K te (gm S) ds) : Run K B (tRet te) S ⟨nx, rtF K B ds, bk, ct⟩ := run_retF h fun p vs H' n e hp hd => ⟨p, vs, rfl, n, e, hp, hd⟩
theorem ret_O (h : S[i]? = some (.ow ds)) : Run K B (tRet (tVar i)) S ⟨nx, rtF K B ds, bk, ct⟩ := run_retO h fun p vs H' n e hp hd => ⟨p, vs, rfl, n, e, hp, hd⟩
theorem ret_D (h : EvD K te (gm S) kvs) : Run K B (tRet te) S ⟨nx, rtD K B kvs, bk, ct⟩ := fun B' e D σ H sb nx rt bk ct =>
  h σ H sb.env _ fun p H1 np e1 hp => rt _ H1 ⟨p, rfl, fresh_back (e.trans sb.ex) np, (e.trans sb.ex).trans e1, hp⟩
theorem ret_OD (h : S[i]? = some (.dk kvs)) : Run K B (tRet (tVar i)) S ⟨nx, rtD K B kvs, bk, ct⟩ := run_retOD h fun p H' n e hp => ⟨p, rfl, n, e, hp⟩
end

/-! ### dicts of ints by ints -/
def lookI (kvs : List (Int × Int)) (k : Int) : Option Int := (kvs.find? fun p => decide (p.1 = k)).map (·.2)
def putI (kvs : List (Int × Int)) (k v : Int) : List (Int × Int) := if (kvs.any fun p => decide (p.1 = k)) = true then kvs.map (fun p => if p.1 = k then (p.1, v) else p) else kvs ++ [(k, v)]
theorem dec_inl (a b : Int) : decide ((Sum.inl a : Key) = Sum.inl b) = decide (a = b) := by
  by_cases h : a = b
  · subst h; simp
  · rw [decide_eq_false h, decide_eq_false fun z => h (Sum.inl.inj z)]
theorem valV_kv (k : Int) : ∀ kvs : List (Int × Int), valV (kvs.map kvV) (Sum.inl k) = (lookI kvs k).map V.int
  | [] => rfl
  | p :: r => by
    have ih := valV_kv k r
    by_cases e : p.1 = k
    · rw [List.map_cons, valV_pos (p := kvV p) (by show Sum.inl p.1 = _; rw [e])]
      simp [lookI, List.find?_cons, e, kvV]
    · rw [List.map_cons, valV_neg (p := kvV p) (by show ¬ Sum.inl p.1 = _; exact fun z => e (Sum.inl.inj z)), ih]
      simp [lookI, List.find?_cons, e]
theorem any_kv (k : Int) (kvs : List (Int × Int)) : ((kvs.map kvV).any fun kv => decide (kv.1 = Sum.inl k)) = (kvs.any fun p => decide (p.1 = k)) := by
  rw [List.any_map]
  congr 1
  funext p
  exact dec_inl p.1 k
theorem putK_kv (k v : Int) (kvs : List (Int × Int)) : putK (kvs.map kvV) (Sum.inl k) (V.int v) = (putI kvs k v).map kvV := by
  unfold putK putI
  rw [any_kv]
  by_cases h : (kvs.any fun p => decide (p.1 = k)) = true
  · rw [if_pos h, if_pos h, List.map_map, List.map_map]
    apply List.map_congr_left
    intro p _
    by_cases e : p.1 = k
    · simp [kvV, e]
    · have : ¬ (Sum.inl p.1 : Key) = Sum.inl k := fun z => e (Sum.inl.inj z)
      simp [kvV, e]
  · rw [if_neg h, if_neg h, List.map_append]
    rfl
section
variable {K : PySem.W.Frag} {Γ : G} {td ty tx tv : TE} {kvs : List (Int × Int)} {k x : Int}
theorem ed_new : EvD K tDNewK Γ [] := fun σ H E Q q p hp => q p _ hp (Ex.new hp) upd_same
theorem ev_dget (h : EvR K td Γ (dI kvs)) (hk : EvR K ty Γ (.int k)) (hx : lookI kvs k = some x) : EvR K (tDGet td ty) Γ (.int x) := fun σ H E Q q =>
  h σ H E _ fun v H1 e1 r1 => hk σ H1 (E.mono e1) _ fun y H2 e2 r2 => by
    obtain ⟨a, rfl, ha⟩ := (r1.mono e2).dict
    rw [r2.int]
    refine ⟨a, .int x, rfl, ?_, q _ H2 (e1.trans e2) (.inl (.int x))⟩
    have := DGet.k (k := Sum.inl k) ha
    rw [valV_kv, hx] at this
    exact this
theorem ev_dget2 (h : EvR K td Γ (dI kvs)) (hk : EvR K ty Γ (.int k)) (hx : EvR K tx Γ (.int x)) : EvR K (tDGet2 td ty tx) Γ (.int ((lookI kvs k).getD x)) := fun σ H E Q q =>
  h σ H E _ fun v H1 e1 r1 => by
    obtain ⟨a, rfl, ha⟩ := r1.dict
    refine ⟨a, rfl, .inl ⟨_, .inl ha⟩, hk σ H1 (E.mono e1) _ fun y H2 e2 r2 => hx σ H2 (E.mono (e1.trans e2)) _ fun z H3 e3 r3 => ?_⟩
    rw [r2.int, r3.int]
    have := DGet.k (k := Sum.inl k) (e3 _ _ (e2 _ _ ha))
    rw [valV_kv] at this
    refine ⟨_, this, q _ H3 ((e1.trans e2).trans e3) ?_⟩
    cases lookI kvs k with
    | none => exact .inl (.int _)
    | some y => exact .inl (.int _)
end
section
variable {K : PySem.W.Frag} {B : Hp} {S : SS} {P : Post} {ty tv : TE} {kvs : List (Int × Int)} {k x : Int} {i : Nat}
theorem run_dput (hs : S[i]? = some (.dk kvs)) (hx : EvR K tv (gm S) (.int x)) (hk : EvR K ty (gm S) (.int k)) (hz : kvs.length < 100000) (q : P.nx (S.set i (.dk (putI kvs k x)))) : Run K B (sDPut (tVar i) ty tv) S P := fun B' e D σ H sb nx rt bk ct => by
  obtain ⟨Hm, A, a, sa⟩ := sb
  obtain ⟨v, hv, ho⟩ := sa.own i _ hs (by intro z; cases z)
  obtain ⟨l, rfl, hA, hl⟩ := ho
  refine hx σ H sa.env _ fun xv H1 e1 r1 => ⟨_, hv, hk σ H1 (sa.env.mono e1) _ fun y H2 e2 r2 => ?_⟩
  rw [r1.int, r2.int]
  have e12 := e1.trans e2
  have hl2 := e12 _ _ hl
  refine ⟨l, _, rfl, DPut.k (k := Sum.inl k) hl2 (by rw [List.length_map]; exact sz_lt hz), ?_⟩
  rw [putK_kv]
  have sa2 := sa.grow e12
  exact nx _ _ _ ⟨_, A, a.trans (sa.strip_of e12), sa2.write (e' := .dk (putI kvs k x)) (by rw [hA]; simp) hv ⟨l, rfl, hA, upd_same⟩ (by intro z; cases z)⟩ q
end
/-- the dict of a comprehension -/
def Cd (K : PySem.W.Frag) (H0 : Hp) (D : Addr) (kvs : List (Int × Int)) (H : Hp) : Prop := Ex H0 (del H D) ∧ H D = some (.dK (kvs.map kvV))
theorem putI_length (kvs : List (Int × Int)) (k v : Int) : (putI kvs k v).length ≤ kvs.length + 1 := by
  unfold putI
  split <;> simp
theorem foldl_putI_length {α : Type} (fk fv : α → Int) : ∀ (l : List α) (acc : List (Int × Int)), (l.foldl (fun kvs a => putI kvs (fk a) (fv a)) acc).length ≤ acc.length + l.length
  | [], acc => by simp
  | a :: l, acc => by
    have h1 := foldl_putI_length fk fv l (putI acc (fk a) (fv a))
    have h2 := putI_length acc (fk a) (fv a)
    simp only [List.foldl_cons, List.length_cons]
    omega
section
variable {K : PySem.W.Frag} {Γ : G} {wi : TI} {g : TG} {tk tv : TE} {vs : List Nat} {α : Type}
theorem ed_dc (src : List α) (emb : α → D) (jd : α → List (Nat × D)) (fk fv : α → Int) (hi : EvIt K wi Γ (src.map emb)) (hg : ∀ a ∈ src, Tg K g (emb a) (jd a)) (hj : ∀ a ∈ src, ∀ p ∈ jd a, p.1 ∈ vs)
    (hk : ∀ a ∈ src, EvR K tk (setJ (wipeG Γ vs) (jd a)) (.int (fk a))) (hv : ∀ a ∈ src, EvR K tv (setJ (wipeG Γ vs) (jd a)) (.int (fv a))) (hl : src.length ≤ 90000) :
    EvD K (tDc wi g tYes tk tv vs) Γ (src.foldl (fun kvs a => putI kvs (fk a) (fv a)) []) := fun σ H E Q q =>
  hi σ H E _ fun J H1 e1 w => fun Dl hD => by
    refine ⟨fun i m H' => m = src.length - i ∧ i ≤ src.length ∧ Cd K H1 Dl ((src.take i).foldl (fun kvs a => putI kvs (fk a) (fv a)) []) H', ⟨src.length, by simp, Nat.zero_le _, del_of hD (Ex.new hD), upd_same⟩, ?_⟩
    rintro i m H' ⟨rfl, hi', cw⟩
    have ex : Ex H1 H' := cw.1.trans del_ex
    obtain ⟨w1, w2⟩ := w H' ex
    by_cases hlt : i < src.length
    · have hsrc : src[i]? = some src[i] := List.getElem?_eq_getElem hlt
      have hmem : src[i] ∈ src := List.getElem_mem hlt
      obtain ⟨go, step⟩ := w1 i (emb src[i]) (by rw [List.getElem?_map, hsrc]; rfl)
      refine .inr ⟨go, fun H'' => Cd K H1 Dl ((src.take (i + 1)).foldl (fun kvs a => putI kvs (fk a) (fv a)) []) H'', fun H'' p => ⟨src.length - (i + 1), by omega, rfl, hlt, p⟩, fun x H2 y => ?_⟩
      obtain ⟨e2, rx⟩ := step x H2 y
      obtain ⟨ws, jw, gq⟩ := hg _ hmem x H1 rx
      refine gq H2 (ex.trans e2) _ _ ⟨wipe_eq (by rw [setW_length, wipe_length]) fun k hk => ?_, ?_⟩
      · rw [setW_out ws _ fun p hp (z : p.1 = k) => hk (by rw [← z]; exact jw.keys (hj _ hmem) p hp), wipe_get hk]
      · have E1 : EnvOk K H1 (setW (wipe σ vs) ws) (setJ (wipeG Γ vs) (jd src[i])) := jw.env ((E.mono e1).wipe vs)
        have E2 := E1.mono (ex.trans e2)
        refine iteT (B := Cd K H1 Dl ((src.take (i + 1)).foldl (fun kvs a => putI kvs (fk a) (fv a)) []) H2) (hk _ hmem _ H2 E2 _ fun y H4 e4 r4 => hv _ hmem _ H4 (E2.mono e4) _ fun z H5 e5 r5 => ?_)
        have cw5 : H5 Dl = _ := e5 _ _ (e4 _ _ (e2 _ _ cw.2))
        have b := foldl_putI_length fk fv (src.take i) []
        rw [List.length_take, List.length_nil] at b
        refine ⟨_, Sum.inl (fk src[i]), r4.int, cw5, by rw [List.length_map]; exact sz_lt (by omega), ?_⟩
        rw [r5.int, putK_kv]
        have tk : (src.take (i + 1)).foldl (fun kvs a => putI kvs (fk a) (fv a)) [] = putI ((src.take i).foldl (fun kvs a => putI kvs (fk a) (fv a)) []) (fk src[i]) (fv src[i]) := by
          rw [List.take_add_one, hsrc, List.foldl_append]
          rfl
        rw [tk]
        exact ⟨cw.1.trans (del_upd ((e2.trans e4).trans e5)), upd_same⟩
    · have hii : i = src.length := by omega
      subst hii
      rw [List.length_map] at w2
      rw [List.take_length] at cw
      exact .inl ⟨w2, q Dl H' (fresh_back e1 hD) (e1.trans ex) cw.2⟩
end
end KW

set_option Elab.async false
set_option linter.all false
set_option maxRecDepth 100000
set_option maxHeartbeats 4000000
/-! rules by values that the layer lacks -/
namespace KW
open PySem PySem.Spec PyProof.Rows L2 Evl

/-! ### one rule for + of ints, tuples, lists; one for an item; one for a slice -/
def rAddX (K : PySem.W.Frag) : R2 := fun x y H Q => rI0 (fun i j => .int (i + j)) x y H Q ∨ (rCatA K x y H Q ∨ rCat x y H Q)
theorem op_addX {X : Cx} : OpR X (binaryOp .Add) (rAddX X.K) := op_add.or (op_catA.or op_cat)
def rSlX (K : PySem.W.Frag) : V → Option Int → Option Int → Hp → VK → Prop := fun x lo hi H Q => rSlL K x lo hi H Q ∨ rSlA K x lo hi H Q
theorem sl_X {X : Cx} : SlR X (rSlX X.K) := sl_list.or sl_tupA
def rIxX (K : PySem.W.Frag) : R2 := fun x y H Q => rIxL K x y H Q ∨ rIxT K x y H Q
theorem ix_X {X : Cx} : IxR X (rIxX X.K) := ix_list.or ix_tup
/-- by values -/
def RvR (K : PySem.W.Frag) (r : R2) (d e f : D) : Prop := ∀ x y H, Rp K H x d → Rp K H y e → ∀ Q : VK, (∀ v H', Ex H H' → Rp K H' v f → Q v H') → r x y H Q
def RvF (K : PySem.W.Frag) (r : R2) (d e : D) (ds : List D) : Prop := ∀ x y H, Rp K H x d → Rp K H y e → ∀ Q : VK, (∀ p vs H', H p = none → Ex H H' → H' p = some (.lst vs) → DpAll K H' vs ds → Q (.ref p) H') → r x y H Q
section
variable {K : PySem.W.Frag} {Γ : G} {ta tb te : TE} {d e f : D} {ds es : List D} {i j : Int} {r r' : R2}
theorem RvR.l (h : RvR K r d e f) : RvR K (fun x y H Q => r x y H Q ∨ r' x y H Q) d e f := fun x y H a b Q q => .inl (h x y H a b Q q)
theorem RvR.rr (h : RvR K r' d e f) : RvR K (fun x y H Q => r x y H Q ∨ r' x y H Q) d e f := fun x y H a b Q q => .inr (h x y H a b Q q)
theorem RvF.l (h : RvF K r d e ds) : RvF K (fun x y H Q => r x y H Q ∨ r' x y H Q) d e ds := fun x y H a b Q q => .inl (h x y H a b Q q)
theorem RvF.rr (h : RvF K r' d e ds) : RvF K (fun x y H Q => r x y H Q ∨ r' x y H Q) d e ds := fun x y H a b Q q => .inr (h x y H a b Q q)
theorem rv_addI : RvR K (rI0 fun i j => .int (i + j)) (.int i) (.int j) (.int (i + j)) := fun x y H r1 r2 Q q => ⟨i, j, r1.int, r2.int, q _ H (Ex.refl H) (.inl (.int _))⟩
theorem rv_mulI (h : CMul i j) : RvR K (rI CMul fun i j => .int (i * j)) (.int i) (.int j) (.int (i * j)) := fun x y H r1 r2 Q q => ⟨i, j, r1.int, r2.int, h, q _ H (Ex.refl H) (.inl (.int _))⟩
theorem rv_catT (hl : ds.length + es.length ≤ 100000) : RvR K (rCatA K) (.tuple ds) (.tuple es) (.tuple (ds ++ es)) := fun x y H r1 r2 Q q => by
  obtain ⟨a, vs, rfl, hs, hd⟩ := r1.tup
  obtain ⟨b, ws, rfl, ht, he⟩ := r2.tup
  have l1 := DpAll.length hd
  have l2 := DpAll.length he
  refine ⟨a, b, vs, ws, rfl, rfl, hs, ht, sz_of (by omega), fun z => ?_, fun _ z => ?_, fun _ _ => fun p hp => ?_⟩
  · have z' : ds = [] := List.length_eq_zero_iff.mp (by rw [← l1, z]; rfl)
    rw [z'] at q
    exact q _ H (Ex.refl H) (.inl (.tup ht he))
  · have z' : es = [] := List.length_eq_zero_iff.mp (by rw [← l2, z]; rfl)
    rw [z', List.append_nil] at q
    exact q _ H (Ex.refl H) (.inl (.tup hs hd))
  · exact q _ _ (Ex.new hp) (.inl (.tup (st_of upd_same) (DpAll.mono (Ex.new hp) (DpAll.append hd he))))
theorem ev_addX_I (ha : EvR K ta Γ (.int i)) (hb : EvR K tb Γ (.int j)) : EvR K (tOp (rAddX K) ta tb) Γ (.int (i + j)) := ev_op ha hb (RvR.l rv_addI)
theorem ev_addX_T (ha : EvR K ta Γ (.tuple ds)) (hb : EvR K tb Γ (.tuple es)) (hl : ds.length + es.length ≤ 100000) : EvR K (tOp (rAddX K) ta tb) Γ (.tuple (ds ++ es)) := ev_op ha hb (RvR.rr (RvR.l (rv_catT hl)))
/-- two new lists together -/
theorem ef_addX_L (ha : EvF K ta Γ ds) (hb : EvF K tb Γ es) (hl : ds.length + es.length ≤ 100000) : EvF K (tOp (rAddX K) ta tb) Γ (ds ++ es) := fun σ H E Q q =>
  ha σ H E _ fun p vs H1 np e1 hp hd => hb σ H1 (E.mono e1) _ fun p2 ws H2 np2 e2 hp2 he => .inr (.inr ⟨p, p2, vs, ws, rfl, rfl, e2 _ _ hp, hp2, sz_of (by rw [DpAll.length hd, DpAll.length he]; omega), fun p3 hp3 =>
    q p3 _ _ (fresh_back (e1.trans e2) hp3) ((e1.trans e2).trans (Ex.new hp3)) upd_same (DpAll.mono (Ex.new hp3) (DpAll.append (DpAll.mono e2 hd) he))⟩)
/-- an elder list of the def's own and a new one -/
theorem ev_ixX_T (ha : EvR K ta Γ (.tuple ds)) (hb : EvR K tb Γ (.int i)) (h : atI ds i = some d) : EvR K (tOp (rIxX K) ta tb) Γ d :=
  ev_op ha hb fun x y H r1 r2 Q q => by
    obtain ⟨a, vs, rfl, hs, hd⟩ := r1.tup
    obtain ⟨v, h1, h2⟩ := DpAll.atI hd h
    exact .inr ⟨a, vs, i, v, rfl, r2.int, hs, h1, q v H (Ex.refl H) (.inl h2)⟩
theorem ev_ixX_L (ha : EvR K ta Γ (.list ds)) (hb : EvR K tb Γ (.int i)) (h : atI ds i = some d) : EvR K (tOp (rIxX K) ta tb) Γ d :=
  ev_op ha hb fun x y H r1 r2 Q q => by
    obtain ⟨a, vs, rfl, hs, hd⟩ := r1.lst
    obtain ⟨v, h1, h2⟩ := DpAll.atI hd h
    exact .inl ⟨a, vs, i, v, rfl, r2.int, hs, h1, q v H (Ex.refl H) (.inl h2)⟩
theorem ev_slX_T {tl th : TO} {lo hi : Option Int} (ha : EvR K te Γ (.tuple ds)) (hl : EvP K tl Γ lo) (hh : EvP K th Γ hi) : EvR K (tSl (rSlX K) te tl th) Γ (.tuple (cutD ds lo hi)) := fun σ H E Q q =>
  ha σ H E _ fun v H1 e1 r1 => hl σ H1 (E.mono e1) _ fun H2 e2 => hh σ H2 (E.mono (e1.trans e2)) _ fun H3 e3 => by
    obtain ⟨a, vs, rfl, hs, hd⟩ := (r1.mono (e2.trans e3)).tup
    have e := (e1.trans e2).trans e3
    refine .inr ⟨a, vs, rfl, hs, fun z => ?_, fun _ => fun p hp => ?_⟩
    · have l1 := DpAll.length hd
      have : cutD ds lo hi = ds := by
        unfold cutD
        rw [← l1, z.1, z.2, List.drop_zero, Nat.sub_zero, l1]
        exact List.take_length
      rw [this] at q
      exact q _ H3 e (.inl (.tup hs hd))
    · exact q _ _ (e.trans (Ex.new hp)) (.inl (.tup (st_of upd_same) (DpAll.mono (Ex.new hp) (DpAll.cut lo hi hd))))
theorem ef_slX_L {tl th : TO} {lo hi : Option Int} (ha : EvR K te Γ (.list ds)) (hl : EvP K tl Γ lo) (hh : EvP K th Γ hi) : EvF K (tSl (rSlX K) te tl th) Γ (cutD ds lo hi) := fun σ H E Q q =>
  ha σ H E _ fun v H1 e1 r1 => hl σ H1 (E.mono e1) _ fun H2 e2 => hh σ H2 (E.mono (e1.trans e2)) _ fun H3 e3 => by
    obtain ⟨a, vs, rfl, hs, hd⟩ := (r1.mono (e2.trans e3)).lst
    have e := (e1.trans e2).trans e3
    exact .inl ⟨a, vs, rfl, hs, fun p hp => q p _ _ (fresh_back e hp) (e.trans (Ex.new hp)) upd_same (DpAll.mono (Ex.new hp) (DpAll.cut lo hi hd))⟩
end

/-! ### x in c, x not in c: data of any depth in a list or a tuple -/
def rInA (K : PySem.W.Frag) (neg : Bool) : R2 := fun x y H Q => ∃ d ds, Dp K H x d ∧ (Dp K H y (.list ds) ∨ Dp K H y (.tuple ds)) ∧ SeqAt.shaped d = true ∧ SeqAt.shaped (.list ds) = true ∧ Q (.bl (if neg then !ds.any fun z => PyData.eqv z d else ds.any fun z => PyData.eqv z d)) H
section
variable {X : Cx}
theorem op_inA (hu : X.A.units + 65 < cLine) : OpR X (compareOp .In) (rInA X.K false) := by
  intro pins s σ H x y v u Q I rx ry h
  obtain ⟨d, ds, hd, he, sd, se, q⟩ := h
  obtain ⟨as, r1⟩ := Dp.reads I d x v hd rx
  have hc : PyData.canLayAll0 ds = true := SeqAt.canLay_of_shaped se
  rcases he with he | he
  · obtain ⟨bs, r2⟩ := Dp.reads I (.list ds) y u he ry
    exact SeqAt.in_list_reads r2 r1 hc (SeqAt.canLay_of_shaped sd) (room_in_shaped sd hu) ⟨.bl _, H, I, rfl, q⟩
  · obtain ⟨bs, r2⟩ := Dp.reads I (.tuple ds) y u he ry
    exact SeqAt.in_tuple_reads r2 r1 hc (SeqAt.canLay_of_shaped sd) (room_in_shaped sd hu) ⟨.bl _, H, I, rfl, q⟩
theorem op_notInA (hu : X.A.units + 65 < cLine) : OpR X (compareOp .NotIn) (rInA X.K true) := by
  intro pins s σ H x y v u Q I rx ry h
  obtain ⟨d, ds, hd, he, sd, se, q⟩ := h
  obtain ⟨as, r1⟩ := Dp.reads I d x v hd rx
  have hc : PyData.canLayAll0 ds = true := SeqAt.canLay_of_shaped se
  rcases he with he | he
  · obtain ⟨bs, r2⟩ := Dp.reads I (.list ds) y u he ry
    exact SeqAt.notIn_list_reads r2 r1 hc (SeqAt.canLay_of_shaped sd) (room_in_shaped sd hu) ⟨.bl _, H, I, rfl, q⟩
  · obtain ⟨bs, r2⟩ := Dp.reads I (.tuple ds) y u he ry
    exact SeqAt.notIn_tuple_reads r2 r1 hc (SeqAt.canLay_of_shaped sd) (room_in_shaped sd hu) ⟨.bl _, H, I, rfl, q⟩
end
section
variable {K : PySem.W.Frag} {Γ : G} {ta tb te : TE} {d e f : D} {ds es : List D}
theorem ev_inL (ha : EvR K ta Γ d) (hb : EvR K tb Γ (.list ds)) (nd : isDict d = false) (sd : SeqAt.shaped d = true) (se : SeqAt.shaped (.list ds) = true) : EvR K (tOp (rInA K false) ta tb) Γ (.bool (ds.any fun z => PyData.eqv z d)) :=
  ev_op ha hb fun x y H r1 r2 Q q => ⟨d, ds, r1.dp nd, .inl (r2.dp rfl), sd, se, q _ H (Ex.refl H) (.inl (.bl _))⟩
theorem ev_inT (ha : EvR K ta Γ d) (hb : EvR K tb Γ (.tuple ds)) (nd : isDict d = false) (sd : SeqAt.shaped d = true) (se : SeqAt.shaped (.list ds) = true) : EvR K (tOp (rInA K false) ta tb) Γ (.bool (ds.any fun z => PyData.eqv z d)) :=
  ev_op ha hb fun x y H r1 r2 Q q => ⟨d, ds, r1.dp nd, .inr (r2.dp rfl), sd, se, q _ H (Ex.refl H) (.inl (.bl _))⟩
theorem ev_niL (ha : EvR K ta Γ d) (hb : EvR K tb Γ (.list ds)) (nd : isDict d = false) (sd : SeqAt.shaped d = true) (se : SeqAt.shaped (.list ds) = true) : EvR K (tOp (rInA K true) ta tb) Γ (.bool (!ds.any fun z => PyData.eqv z d)) :=
  ev_op ha hb fun x y H r1 r2 Q q => ⟨d, ds, r1.dp nd, .inl (r2.dp rfl), sd, se, q _ H (Ex.refl H) (.inl (.bl _))⟩
theorem ev_niT (ha : EvR K ta Γ d) (hb : EvR K tb Γ (.tuple ds)) (nd : isDict d = false) (sd : SeqAt.shaped d = true) (se : SeqAt.shaped (.list ds) = true) : EvR K (tOp (rInA K true) ta tb) Γ (.bool (!ds.any fun z => PyData.eqv z d)) :=
  ev_op ha hb fun x y H r1 r2 Q q => ⟨d, ds, r1.dp nd, .inr (r2.dp rfl), sd, se, q _ H (Ex.refl H) (.inl (.bl _))⟩
/-- is, is not of bools -/
theorem ev_isB {a b : Bool} (ha : EvR K ta Γ (.bool a)) (hb : EvR K tb Γ (.bool b)) : EvR K (tOp rIsB ta tb) Γ (.bool (decide (a = b))) :=
  ev_op ha hb fun x y H r1 r2 Q q => ⟨a, b, r1.bool, r2.bool, q _ H (Ex.refl H) (.inl (.bl _))⟩
theorem ev_isNotB {a b : Bool} (ha : EvR K ta Γ (.bool a)) (hb : EvR K tb Γ (.bool b)) : EvR K (tOp rNotB ta tb) Γ (.bool (!decide (a = b))) :=
  ev_op ha hb fun x y H r1 r2 Q q => ⟨a, b, r1.bool, r2.bool, q _ H (Ex.refl H) (.inl (.bl _))⟩
end
theorem inl_shaped {xs : List D} (h : SeqAt.shaped (.tuple xs) = true) : SeqAt.shaped (.list xs) = true := h

/-! ### isinstance -/
def tyD : D → String
  | .none => "NoneType"
  | .bool _ => "bool"
  | .int _ => "int"
  | .str _ => "str"
  | .list _ => "list"
  | .tuple _ => "tuple"
  | .dict _ => "dict"
theorem tyx_of {K : PySem.W.Frag} {H : Hp} {v : V} : ∀ {d : D}, Dp K H v d → d ≠ .none → TyX K H v (.type (tyD d))
  | .bool b, h, _ => by cases h; exact .base (.bl b)
  | .int i, h, _ => by cases h; exact .base (.int i)
  | .str x, h, _ => by cases h; exact .base (.str x)
  | .list ds, h, _ => by
    cases h with
    | lst hs _ =>
      rcases hs with (h | ⟨o, h⟩) | ⟨o, its, n, hk, hc, _⟩
      · exact .base (.lst h)
      · exact .base (.frz h)
      · exact .kList hk hc
  | .tuple ds, h, _ => by
    cases h with
    | tup hs _ =>
      obtain ⟨i, h⟩ := hs
      exact .fTuple h
  | .dict _, h, _ => by cases h
  | .none, h, n => absurd rfl n
theorem ev_isi {K : PySem.W.Frag} {Γ : G} {ta : TE} {d : D} {T : String} {b : Bool} (ha : EvR K ta Γ d) (nd : isDict d = false) (nn : d ≠ .none) (hk : kitB (tyD d) T = some b) : EvR K (tCB (rIsi K) (tCons ta (tCons (tC (.ty T)) tNil))) Γ (.bool b) := fun σ H E Q q =>
  ha σ H E _ fun v H1 e1 r1 => ⟨v, .ty T, .type (tyD d), .type T, b, rfl, .ty T, tyx_of (r1.dp nd) nn, kit_ty hk, q _ H1 e1 (.inl (.bl b))⟩

/-! ### min of a tuple of ints -/
def rMinT (K : PySem.W.Frag) : List V → Hp → VK → Prop := fun vs H Q => ∃ (a : Addr) (n : Int) (ns : List Int), vs = [V.ref a] ∧ L2.SqT K H a ((n :: ns).map V.int) ∧ Q (.int (ns.foldl min n)) H
theorem alike_ints (ns : List Int) : PySem.W.AlikeAll (ns.map PyData.int) := by
  refine ⟨fun x hx y hy => ?_, fun x hx => ?_⟩
  · obtain ⟨a, _, rfl⟩ := List.mem_map.mp hx
    obtain ⟨b, _, rfl⟩ := List.mem_map.mp hy
    rfl
  · obtain ⟨a, _, rfl⟩ := List.mem_map.mp hx
    intro z
    cases z
theorem depth_ints : ∀ ns : List Int, PyData.depthAll (ns.map PyData.int) = 0
  | [] => rfl
  | n :: ns => by
    rw [List.map_cons, PyData.depthAll, depth_ints ns]
    rfl
theorem cr_minT {X : Cx} (hc : X.calm = true) (hu : X.A.units + 65 < cLine) : CallR X (.builtin "min") (rMinT X.K) := by
  intro pins s σ H vs us Q I r h
  obtain ⟨a, n, ns, rfl, hs, q⟩ := h
  obtain ⟨its, rv, ht, hz⟩ := I.tuple hs
  rw [Vals.ref1 r]
  obtain ⟨as, hr⟩ := Dp.readsAll I ((n :: ns).map PyData.int) _ its (DpAll.of_ints (K := X.K) (H := H) (n :: ns)).l rv
  have hd := depth_ints (n :: ns)
  refine PySem.W.min_tuple_data (x := .int n) (xs := ns.map .int) (I.ok.hd hc) ht hr (alike_ints (n :: ns)) ?_ fun i v h' tk bs hv hrd hk => ?_
  · show X.A.units + 1 + PyData.depthAll ((n :: ns).map PyData.int) < cLine
    rw [hd]
    omega
  · rw [PySem.W.minD_ints] at hrd
    cases hrd with
    | int i t => exact ⟨.int _, H, I.kept hk, ⟨_, rfl⟩, q⟩
theorem ev_minT {K : PySem.W.Frag} {Γ : G} {ta : TE} {n : Int} {ns : List Int} (h : EvR K ta Γ (tI (n :: ns))) : EvR K (tCB (rMinT K) (tCons ta tNil)) Γ (.int (ns.foldl min n)) :=
  ev_cb (eas_cons h eas_nil) fun vs H r Q q => by
    obtain ⟨v, rfl, r1⟩ := rp1 r
    obtain ⟨a, ws, rfl, hs, hd⟩ := r1.tup
    rw [DpAll.ints hd] at hs
    exact ⟨a, n, ns, rfl, hs, q _ H (Ex.refl H) (.inl (.int _))⟩
/-- max, min of one list or tuple or of two ints: one rule for min -/
def rMinX (K : PySem.W.Frag) : List V → Hp → VK → Prop := fun vs H Q => rMin2' vs H Q ∨ rMinT K vs H Q
theorem cr_minX {X : Cx} (hc : X.calm = true) (hu : X.A.units + 65 < cLine) : CallR X (.builtin "min") (rMinX X.K) := (call_min2 hc).or (cr_minT hc hu)
theorem ev_minX2 {K : PySem.W.Frag} {Γ : G} {ta tb : TE} {i j : Int} (h : EvR K ta Γ (.int i)) (h2 : EvR K tb Γ (.int j)) : EvR K (tCB (rMinX K) (tCons ta (tCons tb tNil))) Γ (.int (if j < i then j else i)) :=
  ev_cb (eas_cons h (eas_cons h2 eas_nil)) fun vs H r Q q => by
    obtain ⟨v, w, rfl, r1, r2⟩ := rp2 r
    exact .inl ⟨i, j, by rw [r1.int, r2.int], q _ H (Ex.refl H) (.inl (.int _))⟩
theorem ev_minXT {K : PySem.W.Frag} {Γ : G} {ta : TE} {n : Int} {ns : List Int} (h : EvR K ta Γ (tI (n :: ns))) : EvR K (tCB (rMinX K) (tCons ta tNil)) Γ (.int (ns.foldl min n)) :=
  ev_cb (eas_cons h eas_nil) fun vs H r Q q => by
    obtain ⟨v, rfl, r1⟩ := rp1 r
    obtain ⟨a, ws, rfl, hs, hd⟩ := r1.tup
    rw [DpAll.ints hd] at hs
    exact .inr ⟨a, n, ns, rfl, hs, q _ H (Ex.refl H) (.inl (.int _))⟩
end KW

set_option Elab.async false
set_option linter.all false
set_option maxRecDepth 100000
set_option maxHeartbeats 4000000
/-! a sequence read backwards: xs[::-1] of a list or a tuple -/
namespace KW
open PySem PySem.Spec PyProof.Rows L2 Evl
section
variable {prog : Program} {w : World} {A : Around} {E : Value → Shared → Prop} {s : Shared}
theorem back_applied {sl : Addr} {n : Nat} {tk : Tok} {Q : Int × Int × Nat → Shared → Prop} (hs : s.heap.IsSliceOf sl .none .none (.int (-1) tk)) (h : Q ((n : Int) - 1, -1, n) s) :
    wpAny (model prog w) A (Builtin.Slice.sliceApplied (.ref sl) (pure (n : Int))) Q E s := by
  obtain ⟨os, hos, hcs, hds⟩ := id hs
  unfold Builtin.Slice.sliceApplied Builtin.Slice.sliceFields
  refine wpAny_bind (wpAny_bind (wpAny_field hos hds (x := .none) rfl (wpAny_bind (wpAny_field hos hds (x := .none) rfl (wpAny_bind (wpAny_field hos hds (x := .int (-1) tk) rfl (wpAny_pure ?_)))))))
  refine wpAny_bind (HT.slicePart_ (.int (-1) tk) ?_)
  show wpAny _ _ (if ((-1 : Int) == 0) = true then _ else _) _ _ s
  rw [if_neg (by decide)]
  refine wpAny_bind (HT.slicePart_ .none (wpAny_bind (HT.slicePart_ .none (wpAny_bind (wpAny_pure ?_)))))
  have e1 : Builtin.Slice.sliceAdjust none none (-1) (n : Int) = ((n : Int) - 1, -1) := by
    unfold Builtin.Slice.sliceAdjust
    rfl
  have e2 : Builtin.Slice.slicePlaces ((n : Int) - 1) (-1) (-1) = n := by
    unfold Builtin.Slice.slicePlaces
    have h1 : ¬ ((-1 : Int) > 0) := by omega
    simp only [h1, if_false]
    split
    · have h3 : (n : Int) - 1 - -1 - 1 = (n : Int) - 1 := by omega
      simp <;> omega
    · omega
  show wpAny _ _ (match Builtin.Slice.sliceAdjust none none (-1) (n : Int) with | (lo, hi) => pure (lo, (-1 : Int), Builtin.Slice.slicePlaces lo hi (-1))) _ _ s
  rw [e1]
  show wpAny _ _ (pure ((n : Int) - 1, (-1 : Int), Builtin.Slice.slicePlaces ((n : Int) - 1) (-1) (-1))) _ _ s
  rw [e2]
  exact wpAny_pure h
theorem back_pick (xs : Array Value) : ((List.range xs.size).filterMap fun (m : Nat) => xs[(((xs.size : Nat) : Int) - 1 + (m : Int) * -1).toNat]?).toArray = xs.toList.reverse.toArray := by
  congr 1
  have e : ∀ k, k ≤ xs.size → ((List.range k).filterMap fun (m : Nat) => xs[(((xs.size : Nat) : Int) - 1 + (m : Int) * -1).toNat]?) = (xs.toList.drop (xs.size - k)).reverse := by
    intro k
    induction k with
    | zero => intro _; simp
    | succ k ih =>
      intro hk
      rw [List.range_succ, List.filterMap_append, ih (by omega)]
      have hi : (((xs.size : Nat) : Int) - 1 + (k : Int) * -1).toNat = xs.size - (k + 1) := by omega
      have hlt : xs.size - (k + 1) < xs.size := by omega
      have hd : xs.toList.drop (xs.size - (k + 1)) = xs[xs.size - (k + 1)] :: xs.toList.drop (xs.size - k) := by
        rw [List.drop_eq_getElem_cons (by simpa using hlt)]
        have : xs.size - (k + 1) + 1 = xs.size - k := by omega
        rw [this]
        simp
      rw [hd, List.reverse_cons]
      congr 1
      simp only [List.filterMap_cons, List.filterMap_nil, hi]
      rw [Array.getElem?_eq_getElem hlt]
  rw [e xs.size (Nat.le_refl _), Nat.sub_self, List.drop_zero]
theorem back_tuple {t sl : Addr} {items : Array Value} {tk : Tok} {Q : Value → Shared → Prop} (ht : IsTup s.heap t items) (hs : s.heap.IsSliceOf sl .none .none (.int (-1) tk))
    (h : Q (.ref s.heap.objs.size) { s with heap := s.heap.push { cls := .type "tuple", data := .seq items.toList.reverse.toArray } }) (hsz : items.size ≤ sizeLine) : wpAny (model prog w) A (getItem (.ref t) (.ref sl)) Q E s := by
  have hfit : sizeOk (.seq items.toList.reverse.toArray) := by
    show items.toList.reverse.toArray.size ≤ sizeLine
    simpa using hsz
  have hT : s.TypeIs (.ref sl) "slice" := by
    obtain ⟨os, hos, hcs, _⟩ := id hs
    exact ⟨os, hos, hcs⟩
  unfold getItem
  try with_reducible refine wpAny_holding ?_
  first | refine wpAny_bind (wpAny_pure ?_) | skip
  refine wpAny_bind (wpAny_sequenceKey ht.typeIs (by decide) ?_)
  refine wpAny_bind (wpAny_callSpecial?_slot (name := Str.ofString "__getitem__") ht.typeIs slot_tuple_getitem (wpAny_call_entry slot_tuple_getitem ht.typeIs entry_tuple_getitem ?_ (args_tuple_getitem _ _)))
  show wpAny _ _ (Builtin.Tuple.tupleItemsOf (.ref t) >>= _) _ _ s
  refine wpAny_bind (tupleItemsOf_ ht (wpAny_bind (wpAny_typeOf hT ?_)))
  rw [if_pos (by decide)]
  refine wpAny_bind (back_applied (n := items.size) hs ?_)
  have hno : ¬ ((((items.size : Nat) : Int) - 1 == 0 && (-1 : Int) == 1 && items.size == items.size) = true) := by simp
  show wpAny _ _ (if (((items.size : Nat) : Int) - 1 == 0 && (-1 : Int) == 1 && items.size == items.size) = true then _ else _) _ _ s
  rw [if_neg hno, back_pick]
  first
    | exact wpAny_bind (m := Builtin.Tuple.tupleExact _) (wpAny_newObj_type (wpAny_pure ⟨_, rfl, wpAny_pure h⟩) hfit)
    | exact wpAny_bind (m := Builtin.Tuple.tupleExact _) (wpAny_newObj_type (wpAny_bind (wpAny_pure (wpAny_pure ⟨_, rfl, wpAny_pure h⟩))) hfit)
    | exact wpAny_bind (wpAny_bind (m := Builtin.Tuple.tupleExact _) (wpAny_newObj_type (wpAny_pure (wpAny_pure ⟨_, rfl, wpAny_pure h⟩)) hfit))
    | exact wpAny_bind (wpAny_bind (m := Builtin.Tuple.tupleExact _) (wpAny_newObj_type (wpAny_pure ⟨_, rfl, wpAny_pure h⟩) hfit))
end
section
variable {X : Cx}
def tRevX (K : PySem.W.Frag) (te : TE) : TE := fun σ H Q => te σ H fun x H1 => ∃ a xs, x = .ref a ∧ ((SqL K H1 a xs ∧ ∀ p, H1 p = none → Q (.ref p) (upd H1 p (.lst xs.reverse))) ∨ (L2.SqT K H1 a xs ∧ ∀ {its : List Value} p, H1 p = none → Q (.ref p) (upd H1 p (XT its xs.reverse))))
theorem pe_revX {e : Expr} {te : TE} {k : Nat} {p1 p2 p3 pos : Pos} (he : PE X e te) : PE X (.Subscript e (.Slice none none (some (.UnaryOp .USub (.Constant (.int 1) k p1) p2)) p3) pos) (tRevX X.K te) := by
  refine ⟨fun pins s σ H Q I h => Subscript_ (thn (he.run pins s σ H _ I h) fun v s1 ⟨x, H1, I1, r1, q1⟩ => ?_)⟩
  obtain ⟨a, xs, ex, q⟩ := q1
  subst ex
  cases r1
  have st : PE X (.UnaryOp .USub (.Constant (.int 1) k p1) p2) (tUn (rU fun i => .int (-i)) (tC (.int 1))) := pe_un un_neg pe_int
  refine wpAny_Slice (thn (po_none.run pins s1 σ H1 (fun o H2 => o = none ∧ H2 = H1) I1 ⟨rfl, rfl⟩) fun vl s2 ⟨l, H2, I2, pl, el, e2⟩ => ?_)
  subst el e2
  refine thn (po_none.run pins s2 σ H2 (fun o H3 => o = none ∧ H3 = H2) I2 ⟨rfl, rfl⟩) fun vu s3 ⟨u, H3, I3, pu, eu, e3⟩ => ?_
  subst eu e3
  refine thn ((po_some st).run pins s3 σ H3 (fun o H4 => o = some (-1) ∧ H4 = H3) I3 ⟨1, rfl, -1, rfl, rfl, rfl⟩) fun vs s4 ⟨o, H4, I4, ps, eo, e4⟩ => ?_
  subst eo e4
  cases pl
  cases pu
  cases ps with
  | int _ tk =>
  have I5 : Inv X pins σ H4 { s4 with heap := s4.heap.push { cls := .type "slice", data := .fields #[.none, .none, .int (-1) tk] } } := I4.kept (t' := s4.toks) fun b ob q => Heap.get?_push_of_some _ q
  rcases q with ⟨hx, q⟩ | ⟨hx, q⟩
  · obtain ⟨its, r, ht, hz⟩ := I5.list hx
    have hlen := r.length
    refine tail_any (ops := [.ref a, .ref s4.heap.objs.size]) ht.isList.typeIs (PySem.slot_list_getitem.lookup) ?_ (by with_unfolding_all rfl)
    refine wpAny_getItem_list_slice ht.isList (Heap.IsSliceOf.new _ .none .none (.int (-1) tk)) .none .none (.int (-1) tk) (by decide) ?_ (by rw [List.size_toArray]; omega)
    rw [PySem.W.krv_pick]
    exact ⟨.ref _, _, I5.lnew (its := its.reverse) (t' := s4.toks) (r.reverse) (by rw [List.length_reverse]; exact hz), rfl, q _ I5.fresh⟩
  · obtain ⟨its, r, ht, hz⟩ := I5.tuple hx
    have hlen := r.length
    refine tail_any (ops := [.ref a, .ref s4.heap.objs.size]) ht.typeIs (slot_tuple_getitem.lookup) ?_ (by with_unfolding_all rfl)
    refine back_tuple ht (Heap.IsSliceOf.new _ .none .none (.int (-1) tk)) ?_ (by rw [List.size_toArray]; omega)
    exact ⟨.ref _, _, I5.laid (t' := s4.toks) (fun b ob q => Heap.get?_push_of_some _ q) (Nat.le_refl _) (xt_ok (its := its.reverse) (by rw [List.length_reverse]; exact hz) r.reverse (Heap.get?_push_size _ rfl)), rfl, q _ I5.fresh⟩
end
section
variable {K : PySem.W.Frag} {Γ : G} {te : TE} {ds : List D}
theorem ef_revX (ha : EvR K te Γ (.list ds)) : EvF K (tRevX K te) Γ ds.reverse := fun σ H E Q q =>
  ha σ H E _ fun v H1 e1 r1 => by
    obtain ⟨a, vs, rfl, hs, hd⟩ := r1.lst
    exact ⟨a, vs, rfl, .inl ⟨hs, fun p hp => q p _ _ (fresh_back e1 hp) (e1.trans (Ex.new hp)) upd_same (DpAll.mono (Ex.new hp) (DpAll.reverse hd))⟩⟩
theorem ev_revX (ha : EvR K te Γ (.tuple ds)) : EvR K (tRevX K te) Γ (.tuple ds.reverse) := fun σ H E Q q =>
  ha σ H E _ fun v H1 e1 r1 => by
    obtain ⟨a, vs, rfl, hs, hd⟩ := r1.tup
    exact ⟨a, vs, rfl, .inr ⟨hs, fun p hp => q _ _ (e1.trans (Ex.new hp)) (.inl (.tup (st_of upd_same) (DpAll.mono (Ex.new hp) (DpAll.reverse hd))))⟩⟩
end
end KW

set_option Elab.async false
set_option linter.all false
set_option maxRecDepth 100000
set_option maxHeartbeats 8000000
/-! sorted(set(xs)) of a list of ints -/
namespace KW
open PySem PySem.Spec PyProof.Rows L2 Evl
section
variable {P : Program} {w : World} {A : Around} {E : Value → Shared → Prop} {s : Shared}
theorem set_of_list {l : Addr} {items : Array Value} (ns : List Int) {Q : Value → Shared → Prop} (hh : A.handled = none) (hl : s.heap.IsList l items) (hi : IntsAre items.toList ns) (hb : ns.length + 1 < scanBound)
    (h : ∀ (h' : Heap) (tk c : Nat), SetR w h' s.heap.objs.size (fun j => decide (j ∈ ns)) c → c ≤ ns.length → (∀ b o, s.heap.get? b = some o → h'.get? b = some o) → Q (.ref s.heap.objs.size) { s with heap := h', toks := tk }) :
    wpAny (model P w) A (call (.type "set") [.ref l]) Q E s := by
  have hn : items.size = ns.length := by simpa using IntsAre.length hi
  generalize hsz : s.heap.objs.size = p at h
  let ob : Obj := { cls := .type "set", dict := none, data := .set #[] 0 (.fresh 0 0 (!w.params.followText "set-order")) }
  obtain ⟨c, tl, hmro⟩ := F.called_set.mro
  have k1 := F.called_set.made
  have k2 := F.called_set.sub
  have k3 := F.called_set.notType
  have k4 := F.called_set.canCreate
  have k5 := F.typeCall_set_1 (.ref l)
  refine wpAny_call (codeAny_of_tree ?_)
  show wpAny _ _ (callAny (.type "set") _) _ _ _
  refine wpAny_pure ⟨Code.quiet_builtin _ (by decide +kernel), codeAny_builtin F.entry_type_call ?_⟩
  rw [Around.under_plain (weight_type_call_type "set" [.ref l] []) rfl]
  repeat (any_goals (first | assumption | wp_step))
  refine codeAny_mono (code_set_led1 (.ref l) (E := E) (Q₁ := fun v s₁ => v = .ref p ∧ s₁ = { s with heap := s.heap.push ob }) ⟨by rw [hsz], rfl⟩) fun r s₁ hr => ?_
  cases r with
  | error e => exact hr
  | ok fl =>
    cases fl with
    | ret v =>
      obtain ⟨rfl, rfl⟩ := hr
      have g0 : (s.heap.push ob).get? p = some ob := by rw [← hsz]; exact Heap.get?_push_size _ rfl
      have hT : Shared.TypeIs { s with heap := s.heap.push ob } (.ref p) "set" := ⟨_, g0, rfl⟩
      have k6 := F.called_set.init.lookup
      have k7 := F.called_set.init.bind (.ref p)
      repeat (any_goals (first | assumption | wp_step))
      refine codeAny_mono (codeAny_call_builtin (R := wants (fun r s₂ => r = .none ∧ ∃ h' tk c, s₂ = { s with heap := h', toks := tk } ∧ SetR w h' p (fun j => decide (j ∈ ns)) c ∧ c ≤ ns.length ∧ (∀ b o, s.heap.get? b = some o → h'.get? b = some o)) E)
        F.called_set.init.plain F.entry_set_init (check_set_init_1 hT ?_)) fun r₂ s₂ hr₂ => ?_
      · obtain ⟨⟨lc, ld, ldat, lsl⟩, g1, lcls, ln, lseq⟩ := hl
        simp only at lcls lseq
        subst lcls; subst lseq
        have g2 := Heap.get?_push_of_some ob g1
        have j1 := F.sub_list_set
        have j2 := F.sub_list_frozenset
        have j3 : (Value.type "list" == Value.type "dict") = false := by decide
        have g3 : (s.heap.push ob).IsList l items := ⟨_, g2, rfl, ln, rfl⟩
        have lp : l < p := by rw [← hsz]; exact Heap.lt_size g1
        unfold Builtin.«set.__init__» noKeywords Builtin.Frozenset.updateFrom
        generalize hI : pyIter = it
        wp_walk
        subst hI
        refine wpAny_pyIter_list g3 (wpAny_bind (wpAny_runValue ?_))
        have z1 : (s.heap.push ob).objs.size = p + 1 := by rw [Heap.size_push, hsz]
        have ne1 : l ≠ (s.heap.push ob).objs.size := by rw [z1]; exact Nat.ne_of_lt (Nat.lt_succ_of_lt lp)
        have out : p ∉ [(s.heap.push ob).objs.size, l] := by
          rw [z1]
          simp only [List.mem_cons, List.not_mem_nil, or_false, not_or]
          exact ⟨Nat.ne_of_lt (Nat.lt_succ_self _), Nat.ne_of_gt lp⟩
        have at' : ∀ (i : Nat) (v : Value), items[i]? = some v → ∃ k t, ns[i]? = some k ∧ v = .int k t := fun i v hv => by
          have hi' : i < ns.length := by rw [← hn]; exact (Array.getElem?_eq_some_iff.mp hv).1
          obtain ⟨t, e⟩ := IntsAre.int_at hi i v (by rw [Array.getElem?_toList]; exact hv)
          exact ⟨ns[i], t, List.getElem?_eq_getElem hi', by rw [e, List.getD_eq_getElem?_getD, List.getElem?_eq_getElem hi'] <;> rfl⟩
        have hh3 : A.in1.in1.in1.handled = none := by simp [hh]
        refine set_update_ints ((Walks.list hh3 _ l ne1 items).toS) p out ns hn hb at' (items.size - 0) 0 _ (by omega) (Nat.zero_le _) ⟨⟨_, Heap.get?_push_size _ rfl, rfl, rfl⟩, (g3.push _)⟩ ?start ?fin
        case start => exact ⟨0, Nat.le_refl 0, setR_new_at (Heap.get?_push_of_some _ g0)⟩
        case fin =>
          intro s' c' mv hc' hS
          obtain ⟨h', g', d', tk', os'⟩ := s'
          obtain rfl : g' = s.gens := mv.gens
          obtain rfl : d' = s.drawn := mv.drawn
          obtain rfl : os' = s.os := mv.os
          show wpAny _ _ _ _ _ _
          refine wpAny_pure ?_
          show wpAny _ _ (ret Value.none) _ _ _
          rw [hn] at hc'
          refine wpAny_pure ⟨rfl, h', tk', c', rfl, hS, hc', fun b o e => ?_⟩
          have b0 : b < p := by rw [← hsz]; exact Heap.lt_size e
          refine mv.heap b o ?_ (Heap.get?_push_of_some _ (Heap.get?_push_of_some _ e))
          rw [z1]
          simp only [List.mem_cons, List.not_mem_nil, or_false, not_or]
          exact ⟨Nat.ne_of_lt b0, Nat.ne_of_lt (Nat.lt_succ_of_lt b0)⟩
      · cases r₂ with
        | error e => exact hr₂
        | ok f2 =>
          cases f2 with
          | ret r =>
            obtain ⟨rfl, h', tk, c', rfl, hS, hc', hk⟩ := hr₂
            repeat (any_goals (first | assumption | wp_step))
            exact h _ _ _ hS hc' hk
          | _ => exact hr₂.elim
    | _ => exact hr.elim
end
section
variable {X : Cx}
def rSetOf (K : PySem.W.Frag) (w : World) : List V → Hp → VK → Prop := fun xs H Q => ∃ (a : Addr) (ns : List Int), xs = [V.ref a] ∧ SqL K H a (ns.map V.int) ∧ ns.length < 1000 ∧ ∀ p c, H p = none → c ≤ ns.length → Q (.ref p) (upd H p (SetO w p (fun j => decide (j ∈ ns)) c))
theorem cr_setOf (hc : X.calm = true) : CallR X (.type "set") (rSetOf X.K X.w) := by
  intro pins s σ H xs us Q I r h
  obtain ⟨a, ns, rfl, hs, hl, q⟩ := h
  obtain ⟨its, rv, ht, hz⟩ := I.list hs
  rw [Vals.ref1 r]
  refine set_of_list ns (I.ok.hd hc) ht.isList rv.ints (by unfold scanBound; omega) fun h' tk c hS hcn hk => ?_
  exact ⟨.ref _, upd H s.heap.objs.size (SetO X.w s.heap.objs.size (fun j => decide (j ∈ ns)) c), I.laid (t' := tk) hk (Nat.le_refl _) (setO_new hS), rfl, q _ _ I.fresh hcn⟩
end
theorem ef_sortedSet {K : PySem.W.Frag} {w : World} {Γ : G} {te : TE} {ns ms : List Int} (h : EvR K te Γ (lI ns)) (hl : ns.length < 64) (hp : ms.Pairwise (· < ·)) (hm : ∀ k, k ∈ ms ↔ k ∈ ns) :
    EvF K (tCB (rSortedSet w) (tCons (tCB (rSetOf K w) (tCons te tNil)) tNil)) Γ (ms.map .int) := fun σ H E Q q =>
  h σ H E _ fun v H1 e1 r1 => by
    obtain ⟨a, vs, rfl, hs, hd⟩ := r1.lst
    rw [DpAll.ints hd] at hs
    refine ⟨a, ns, rfl, hs, by omega, fun p c hp' hc => ⟨p, fun j => decide (j ∈ ns), c, rfl, upd_same, by omega, fun ms' p2 hp2 hm2 hl2 hn2 => ?_⟩⟩
    have e : ms' = ms := by
      have e1 : ∀ k, k ∈ ms' ↔ k ∈ ms := fun k => by rw [hm2, hm]; simp
      have : ∀ {a b : List Int}, a.Pairwise (· < ·) → b.Pairwise (· < ·) → (∀ k, k ∈ a ↔ k ∈ b) → a = b := by
        intro a
        induction a with
        | nil =>
          intro b _ _ hk
          cases b with
          | nil => rfl
          | cons y ys => exact absurd ((hk y).mpr List.mem_cons_self) (by simp)
        | cons x xs ih =>
          intro b ha hb hk
          cases b with
          | nil => exact absurd ((hk x).mp List.mem_cons_self) (by simp)
          | cons y ys =>
            rw [List.pairwise_cons] at ha hb
            have exy : x = y := by
              have h1 := (hk x).mp List.mem_cons_self
              have h2 := (hk y).mpr List.mem_cons_self
              rcases List.mem_cons.mp h1 with h1 | h1
              · exact h1
              · rcases List.mem_cons.mp h2 with h2 | h2
                · exact h2.symm
                · have := hb.1 x h1
                  have := ha.1 y h2
                  omega
            subst exy
            congr 1
            refine ih ha.2 hb.2 fun k => ?_
            have := hk k
            simp only [List.mem_cons] at this
            constructor
            · intro hk1
              rcases this.mp (.inr hk1) with h | h
              · have := ha.1 k hk1; omega
              · exact h
            · intro hk1
              rcases this.mpr (.inr hk1) with h | h
              · have := hb.1 k hk1; omega
              · exact h
      exact this hp2 hp e1
    subst e
    have ex : Ex H1 (upd (upd H1 p (SetO w p (fun j => decide (j ∈ ns)) c)) p2 (.lst (ms'.map V.int))) := (Ex.new hp').trans (Ex.new hn2)
    exact q p2 _ _ (fresh_back (e1.trans (Ex.new hp')) hn2) (e1.trans ex) upd_same (DpAll.of_ints _)
end KW

set_option Elab.async false
set_option linter.all false
set_option maxRecDepth 100000
set_option maxHeartbeats 8000000
/-! calls by name; what is walked, list or tuple; great products -/
namespace KW
open PySem PySem.Spec PyProof.Rows L2 Evl
/-- the module's name x holds a def that keeps sp -/
structure DefOk (P : Program) (w : World) (K : PySem.W.Frag) (mg : Str → Option Value) (base : Heap) (x : Str) (ps : List Str) (k : Nat) (sp : Sp) : Prop where
  ok : ∃ f fd, FnOk P w K mg base CX0 k f fd ps sp ∧ mg x = some (.ref f) ∧ PySem.W.keepIn K (.ref f) = true ∧ Binds K fd ps []
theorem DefOk.mk' {P : Program} {w : World} {K : PySem.W.Frag} {mg : Str → Option Value} {base : Heap} {x : Str} {ps : List Str} {k : Nat} {sp : Sp} {f : Addr} {fd : FuncData} {q : Str} {st : Stmt} (F : Fun K x q st f fd) (h : FnOk P w K mg base CX0 k f fd ps sp) (g : mg x = some (.ref f)) (b : Binds K fd ps []) : DefOk P w K mg base x ps k sp :=
  ⟨f, fd, h, g, F.kp, b⟩
theorem pe_callD {X : Cx} {x : Str} {ps : List Str} {k : Nat} {sp : Sp} {e : Expr} {es : List Expr} {t : TA} {p pos : Pos} (h : DefOk X.prog X.w X.K X.mg X.base x ps k sp) (hr : Room k X.A) (hg : Gl X x) (ha : PA X (e :: es) t)
    (h1 : (x == ("__debug__" : Str)) = false := by decide) (h2 : starEach (e :: es) X.env = (false, eval e X.env) :: starEach es X.env := by rfl) (h3 : (backTo pos (starEach es X.env)).any (·.1) = false := by rfl) : PE X (.Call (.Name x p) (e :: es) [] pos) (tCall sp [] E0 t) := by
  obtain ⟨f, fd, F, g, kp, b⟩ := h.ok
  exact pe_call F hr hg g kp b .nil pass0 ha h1 h2 h3
/-- list or tuple, walked -/
def iSeq (K : PySem.W.Frag) (tl : TE) : TI := fun σ H R => tl σ H fun x H1 => ∃ a, x = .ref a ∧ (((∃ xs, SqL K H1 a xs) ∧ R (Itl K a) H1) ∨ ((∃ xs, L2.SqT K H1 a xs) ∧ R (Itt K a) H1))
theorem pi_seq {X : Cx} {tg l : Expr} {tl : TE} (hl : PE X l tl) : PI X tg l (iSeq X.K tl) := by
  refine ⟨fun pins s σ H R I h => thn (hl.run pins s σ H _ I h) fun v s1 ⟨x, H1, I1, r1, a, ex, q⟩ => ?_⟩
  subst ex
  cases r1
  have fp : ∀ b ∈ [s1.heap.objs.size], FpOk X pins H1 b := fun b hb => by
    rw [List.mem_singleton.mp hb]
    exact I1.fpOk (Nat.le_refl _) (I1.hok.fresh (Nat.le_refl _))
  rcases q with ⟨⟨xs, hq⟩, q⟩ | ⟨⟨xs, hq⟩, q⟩
  · obtain ⟨its, rv, p, _⟩ := I1.list hq
    exact wpAny_pyIter_list p.isList ⟨_, _, _, _, H1, rfl, I1.kept (t' := s1.toks) fun b o e => Heap.get?_push_of_some _ e, turn_list a _, ⟨_, Heap.get?_push_size _ rfl, rfl, rfl⟩, fp, q⟩
  · obtain ⟨its, rv, p, _⟩ := I1.tuple hq
    exact wpAny_pyIter_tuple (show s1.heap.IsTuple a its.toArray from p) ⟨_, _, _, _, H1, rfl, I1.kept (t' := s1.toks) fun b o e => Heap.get?_push_of_some _ e, turn_tuple a _, ⟨_, Heap.get?_push_size _ rfl, rfl, rfl⟩, fp, q⟩
section
variable {K : PySem.W.Frag} {Γ : G} {tl te : TE} {ds : List D} {S : SS} {i : Nat}
theorem it_seqT (h : EvR K tl Γ (.tuple ds)) : EvIt K (iSeq K tl) Γ ds := fun σ H E R q =>
  h σ H E _ fun v H1 e1 r => by
    obtain ⟨a, vs, rfl, hs, hd⟩ := r.tup
    exact ⟨a, rfl, .inr ⟨⟨vs, hs⟩, q _ H1 e1 (walks_tup hs hd)⟩⟩
theorem it_seqL (h : EvR K tl Γ (.list ds)) : EvIt K (iSeq K tl) Γ ds := fun σ H E R q =>
  h σ H E _ fun v H1 e1 r => by
    obtain ⟨a, vs, rfl, hs, hd⟩ := r.lst
    exact ⟨a, rfl, .inl ⟨⟨vs, hs⟩, q _ H1 e1 (walks_lst hs hd)⟩⟩
theorem itm_seqT (h : EvR K tl Γ (.tuple ds)) (n : noLs ds = true) : EvItM K (iSeq K tl) Γ ds := fun σ H E R q =>
  h σ H E _ fun v H1 e1 r => by
    obtain ⟨a, vs, rfl, hs, hd⟩ := r.tup
    exact ⟨a, rfl, .inr ⟨⟨vs, hs⟩, q _ H1 e1 fun D xs hD => walks_tup (del_sqT (e1 _ _ hD) _ _ hs) (DpAll.mapT (del_sqT (e1 _ _ hD)) _ _ n hd)⟩⟩
theorem its_seqT (h : EvR K te (gm S) (.tuple ds)) (n : noLs ds = true) : EvItS K (iSeq K te) S ds := fun Hm H σ A sa R q =>
  h σ H sa.env _ fun v H1 e1 r => by
    obtain ⟨a, vs, rfl, hs, hd⟩ := r.tup
    exact ⟨a, rfl, .inr ⟨⟨vs, hs⟩, q _ _ H1 (sa.strip_of e1) (sa.grow e1) (walks_tup (sa.sqT e1 _ _ hs) (DpAll.mapT (sa.sqT e1) _ _ n hd))⟩⟩
theorem its_seqV (hs : S[i]? = some (.im (.list ds))) : EvItS K (iSeq K (tVar i)) S ds := fun Hm H σ A sa R q => by
  obtain ⟨v, h1, h2⟩ := sa.own i _ hs (by intro z; cases z)
  obtain ⟨a, vs, rfl, hl, hd⟩ := h2.1.lst
  exact ⟨_, h1, a, rfl, .inl ⟨⟨vs, ex_l sa.ex hl⟩, q _ Hm H (Ex.refl _) sa (walks_lst hl hd)⟩⟩
theorem its_seqF (h : EvF K te (gm S) ds) (n : noLs ds = true) : EvItS K (iSeq K te) S ds := fun Hm H σ A sa R q =>
  h σ H sa.env _ fun p vs H1 np e1 hp hd => by
    have hl : strip H1 A p = some (.lst vs) := by rw [strip_out (fresh_own sa np)]; exact hp
    exact ⟨p, rfl, .inl ⟨⟨vs, sq_of hp⟩, q _ _ H1 (sa.strip_of e1) (sa.grow e1) (walks_lst (sq_of hl) (DpAll.mapT (sa.sqT e1) _ _ n hd))⟩⟩
end
/-- the built-in names that the module does not bind -/
structure Bl (mg : Str → Option Value) : Prop where
  abs : mg "abs" = none
  all : mg "all" = none
  bool : mg "bool" = none
  dict : mg "dict" = none
  int : mg "int" = none
  isinstance : mg "isinstance" = none
  len : mg "len" = none
  list : mg "list" = none
  max : mg "max" = none
  min : mg "min" = none
  range : mg "range" = none
  set : mg "set" = none
  sorted : mg "sorted" = none
  sum : mg "sum" = none
  tuple : mg "tuple" = none
/-! ranges as lists and tuples -/
section
variable {K : PySem.W.Frag} {Γ : G} {ta tb : TE} {i j : Int}
theorem rgV_map (a b : Int) : rgV a b = (rgI a (b - a).toNat).map V.int := by
  unfold rgV rgI
  rw [List.map_map]
  rfl
theorem ef_listRg1 (h : EvR K ta Γ (.int j)) (hj : 0 ≤ j ∧ j ≤ 100000) : EvF K (tLstRg (tRg1 ta)) Γ ((rgI 0 j.toNat).map .int) := fun σ H E Q q =>
  h σ H E _ fun v H1 e1 r1 => ⟨j, r1.int, ⟨by omega, by omega, by omega, by omega, by omega⟩, fun p hp => by
    rw [rgV_map, Int.sub_zero]
    exact q p _ _ (fresh_back e1 hp) (e1.trans (Ex.new hp)) upd_same (DpAll.of_ints _)⟩
theorem ev_tupRg1 (h : EvR K ta Γ (.int j)) (hj : 0 ≤ j ∧ j ≤ 100000) : EvR K (tTupRg (tRg1 ta)) Γ (tI (rgI 0 j.toNat)) := fun σ H E Q q =>
  h σ H E _ fun v H1 e1 r1 => ⟨j, r1.int, ⟨by omega, by omega, by omega, by omega, by omega⟩, fun p hp => by
    rw [rgV_map, Int.sub_zero]
    exact q _ _ (e1.trans (Ex.new hp)) (.inl (.tup (st_of upd_same) (DpAll.of_ints _)))⟩
theorem ev_tupRg2 (h : EvR K ta Γ (.int i)) (h2 : EvR K tb Γ (.int j)) (hj : 0 ≤ i ∧ i ≤ 100000 ∧ 0 ≤ j ∧ j ≤ 100000) : EvR K (tTupRg (tRg2 ta tb)) Γ (tI (rgI i (j - i).toNat)) := fun σ H E Q q =>
  h σ H E _ fun v H1 e1 r1 => h2 σ H1 (E.mono e1) _ fun v2 H2 e2 r2 => ⟨i, j, r1.int, r2.int, ⟨by omega, by omega, by omega, by omega, by omega⟩, fun p hp => by
    rw [rgV_map]
    exact q _ _ ((e1.trans e2).trans (Ex.new hp)) (.inl (.tup (st_of upd_same) (DpAll.of_ints _)))⟩
end
end KW

set_option Elab.async false
set_option linter.all false
set_option maxRecDepth 100000
set_option maxHeartbeats 8000000
/-! the value lemmas that the small tactic takes -/
namespace KW
open PySem PySem.Spec PyProof.Rows L2 Evl
section
variable {K : PySem.W.Frag} {Γ : G} {ta tb te : TE} {d e f : D} {ds es : List D} {i j k : Int} {a b c : Bool}
theorem rv_add : RvR K (rAddX K) (.int i) (.int j) (.int (i + j)) := RvR.l rv_addI
theorem rv_addT (hl : ds.length + es.length ≤ 100000) : RvR K (rAddX K) (.tuple ds) (.tuple es) (.tuple (ds ++ es)) := RvR.rr (RvR.l (rv_catT hl))
theorem rv_I0 {g : Int → Int → V} (hf : flatVD (g i j) = true) : RvR K (rI0 g) (.int i) (.int j) (VD (g i j)) := fun x y H r1 r2 Q q => ⟨i, j, r1.int, r2.int, q _ H (Ex.refl H) (rp_VD hf)⟩
theorem rv_I {C : Int → Int → Prop} {g : Int → Int → V} (hf : flatVD (g i j) = true) (hc : C i j) : RvR K (rI C g) (.int i) (.int j) (VD (g i j)) := fun x y H r1 r2 Q q => ⟨i, j, r1.int, r2.int, hc, q _ H (Ex.refl H) (rp_VD hf)⟩
theorem rv_sub : RvR K (rI0 fun i j => .int (i - j)) (.int i) (.int j) (.int (i - j)) := rv_I0 rfl
theorem rv_lt : RvR K (rI0 fun i j => .bl (decide (i < j))) (.int i) (.int j) (.bool (decide (i < j))) := rv_I0 rfl
theorem rv_le : RvR K (rI0 fun i j => .bl (decide (i ≤ j))) (.int i) (.int j) (.bool (decide (i ≤ j))) := rv_I0 rfl
theorem rv_gt : RvR K (rI0 fun i j => .bl (decide (j < i))) (.int i) (.int j) (.bool (decide (j < i))) := rv_I0 rfl
theorem rv_ge : RvR K (rI0 fun i j => .bl (decide (j ≤ i))) (.int i) (.int j) (.bool (decide (j ≤ i))) := rv_I0 rfl
theorem rv_mul (hc : CMul i j) : RvR K (rI CMul fun i j => .int (i * j)) (.int i) (.int j) (.int (i * j)) := rv_I rfl hc
theorem rv_mod (hc : 0 < j) : RvR K (rI (fun _ j => 0 < j) fun i j => .int (i % j)) (.int i) (.int j) (.int (i % j)) := rv_I rfl hc
theorem rv_fdiv (hc : CDiv i j) : RvR K (rI CDiv fun i j => .int (i / j)) (.int i) (.int j) (.int (i / j)) := rv_I rfl hc
theorem rv_pow (hc : CPow i j) : RvR K (rI CPow fun i j => .int (i ^ j.toNat)) (.int i) (.int j) (.int (i ^ j.toNat)) := rv_I rfl hc
theorem rv_ixT (h : atI ds i = some d) : RvR K (rIxX K) (.tuple ds) (.int i) d := fun x y H r1 r2 Q q => by
  obtain ⟨a, vs, rfl, hs, hd⟩ := r1.tup
  obtain ⟨v, h1, h2⟩ := DpAll.atI hd h
  exact .inr ⟨a, vs, i, v, rfl, r2.int, hs, h1, q v H (Ex.refl H) (.inl h2)⟩
theorem rv_ixL (h : atI ds i = some d) : RvR K (rIxX K) (.list ds) (.int i) d := fun x y H r1 r2 Q q => by
  obtain ⟨a, vs, rfl, hs, hd⟩ := r1.lst
  obtain ⟨v, h1, h2⟩ := DpAll.atI hd h
  exact .inl ⟨a, vs, i, v, rfl, r2.int, hs, h1, q v H (Ex.refl H) (.inl h2)⟩
theorem atI_int {α : Type} {xs : List α} (z : α) (h0 : 0 ≤ k) (h1 : k < (xs.length : Int)) : atI xs k = some (xs.getD k.toNat z) := by
  have e : k = (k.toNat : Int) := by omega
  have hlt : k.toNat < xs.length := by omega
  have : atI xs (k.toNat : Int) = some (xs.getD k.toNat z) := atI_nat (by rw [List.getElem?_eq_getElem hlt, List.getD_eq_getElem?_getD, List.getElem?_eq_getElem hlt]; rfl)
  rw [← e] at this
  exact this
theorem atI_map {α β : Type} {f : α → β} {xs : List α} {x : α} (h : atI xs k = some x) : atI (xs.map f) k = some (f x) := by
  unfold atI at h ⊢
  rw [List.length_map]
  cases q : ixN xs.length k with
  | none => rw [q] at h; cases h
  | some j =>
    rw [q] at h
    have h : xs[j]? = some x := h
    show (xs.map f)[j]? = some (f x)
    rw [List.getElem?_map, h]
    rfl
theorem atI_back {α : Type} {xs : List α} (z : α) (h : xs ≠ []) : atI xs (-1) = some (xs.getLastD z) := by
  have e := List.dropLast_concat_getLast h
  have : atI (xs.dropLast ++ [xs.getLast h]) (-1) = some (xs.getLast h) := atI_last _ _
  rw [e] at this
  rw [this, List.getLastD_eq_getLast?, List.getLast?_eq_some_getLast h]
  rfl
theorem rv_ixTI {ns : List Int} (h0 : 0 ≤ k) (h1 : k < (ns.length : Int)) : RvR K (rIxX K) (tI ns) (.int k) (.int (ns.getD k.toNat 0)) := rv_ixT (atI_map (atI_int 0 h0 h1))
theorem rv_ixLI {ns : List Int} (h0 : 0 ≤ k) (h1 : k < (ns.length : Int)) : RvR K (rIxX K) (lI ns) (.int k) (.int (ns.getD k.toNat 0)) := rv_ixL (atI_map (atI_int 0 h0 h1))
theorem rv_isB : RvR K rIsB (.bool a) (.bool b) (.bool (decide (a = b))) := fun x y H r1 r2 Q q => ⟨a, b, r1.bool, r2.bool, q _ H (Ex.refl H) (.inl (.bl _))⟩
theorem rv_notB : RvR K rNotB (.bool a) (.bool b) (.bool (!decide (a = b))) := fun x y H r1 r2 Q q => ⟨a, b, r1.bool, r2.bool, q _ H (Ex.refl H) (.inl (.bl _))⟩
/-! equality -/
theorem shaped_int : SeqAt.shaped (.int i) = true := rfl
theorem lay_ints : ∀ ns : List Int, PyData.canLayAll0 (ns.map PyData.int) = true
  | [] => rfl
  | n :: ns => by
    rw [List.map_cons, PyData.canLayAll0, lay_ints ns]
    rfl
theorem shaped_tI (ns : List Int) : SeqAt.shaped (tI ns) = true := by
  unfold SeqAt.shaped
  have h1 : PyData.canLay0 (tI ns) = true := lay_ints ns
  have h2 : PyData.depth (tI ns) ≤ 64 := by
    unfold PyData.depth
    rw [depth_ints]
    decide
  rw [h1, decide_eq_true h2]
  rfl
theorem eqvAll_ints : ∀ xs ys : List Int, PyData.eqvAll (xs.map .int) (ys.map .int) = decide (xs = ys)
  | [], [] => rfl
  | [], _ :: _ => rfl
  | _ :: _, [] => rfl
  | x :: xs, y :: ys => by
    rw [List.map_cons, List.map_cons, PyData.eqvAll, eqvAll_ints xs ys]
    show ((x == y) && decide (xs = ys)) = decide (x :: xs = y :: ys)
    by_cases h : x = y
    · subst h; simp
    · have : ¬ (x :: xs = y :: ys) := fun z => h (List.cons.inj z).1
      rw [decide_eq_false this, beq_eq_false_iff_ne.mpr h]
      rfl
theorem eqv_tI (xs ys : List Int) : PyData.eqv (tI xs) (tI ys) = decide (xs = ys) := eqvAll_ints xs ys
theorem eqv_lI (xs ys : List Int) : PyData.eqv (lI xs) (lI ys) = decide (xs = ys) := eqvAll_ints xs ys
theorem eqv_int : PyData.eqv (.int i) (.int j) = decide (i = j) := by
  show (i == j) = _
  by_cases h : i = j
  · subst h; simp
  · rw [decide_eq_false h, beq_eq_false_iff_ne.mpr h]
theorem rv_eqI : RvR K (rEqD K) (.int i) (.int j) (.bool (decide (i = j))) := fun x y H r1 r2 Q q => ⟨_, _, (r1.dp rfl).l, (r2.dp rfl).l, rfl, rfl, by rw [eqv_int]; exact q _ H (Ex.refl H) (.inl (.bl _))⟩
theorem rv_neI : RvR K (rNeD K) (.int i) (.int j) (.bool (!decide (i = j))) := fun x y H r1 r2 Q q => ⟨_, _, (r1.dp rfl).l, (r2.dp rfl).l, rfl, rfl, by rw [eqv_int]; exact q _ H (Ex.refl H) (.inl (.bl _))⟩
theorem rv_eqB : RvR K (rEqD K) (.bool a) (.bool b) (.bool (a == b)) := fun x y H r1 r2 Q q => ⟨_, _, (r1.dp rfl).l, (r2.dp rfl).l, rfl, rfl, q _ H (Ex.refl H) (.inl (.bl _))⟩
theorem rv_neB : RvR K (rNeD K) (.bool a) (.bool b) (.bool (!(a == b))) := fun x y H r1 r2 Q q => ⟨_, _, (r1.dp rfl).l, (r2.dp rfl).l, rfl, rfl, q _ H (Ex.refl H) (.inl (.bl _))⟩
theorem rv_eqS {x y : Str} (hx : SeqAt.shaped (.str x) = true) (hy : SeqAt.shaped (.str y) = true) : RvR K (rEqD K) (.str x) (.str y) (.bool (x == y)) := fun _ _ H r1 r2 Q q => ⟨_, _, (r1.dp rfl).l, (r2.dp rfl).l, hx, hy, q _ H (Ex.refl H) (.inl (.bl _))⟩
theorem rv_neS {x y : Str} (hx : SeqAt.shaped (.str x) = true) (hy : SeqAt.shaped (.str y) = true) : RvR K (rNeD K) (.str x) (.str y) (.bool (!(x == y))) := fun _ _ H r1 r2 Q q => ⟨_, _, (r1.dp rfl).l, (r2.dp rfl).l, hx, hy, q _ H (Ex.refl H) (.inl (.bl _))⟩
theorem rv_eqT {xs ys : List Int} : RvR K (rEqD K) (tI xs) (tI ys) (.bool (decide (xs = ys))) := fun _ _ H r1 r2 Q q => ⟨_, _, (r1.dp rfl).l, (r2.dp rfl).l, shaped_tI xs, shaped_tI ys, by rw [eqv_tI]; exact q _ H (Ex.refl H) (.inl (.bl _))⟩
theorem rv_neT {xs ys : List Int} : RvR K (rNeD K) (tI xs) (tI ys) (.bool (!decide (xs = ys))) := fun _ _ H r1 r2 Q q => ⟨_, _, (r1.dp rfl).l, (r2.dp rfl).l, shaped_tI xs, shaped_tI ys, by rw [eqv_tI]; exact q _ H (Ex.refl H) (.inl (.bl _))⟩
theorem rv_eqLI {xs ys : List Int} : RvR K (rEqD K) (lI xs) (lI ys) (.bool (decide (xs = ys))) := fun _ _ H r1 r2 Q q => ⟨_, _, (r1.dp rfl).l, (r2.dp rfl).l, shaped_tI xs, shaped_tI ys, by rw [eqv_lI]; exact q _ H (Ex.refl H) (.inl (.bl _))⟩
theorem rv_neLI {xs ys : List Int} : RvR K (rNeD K) (lI xs) (lI ys) (.bool (!decide (xs = ys))) := fun _ _ H r1 r2 Q q => ⟨_, _, (r1.dp rfl).l, (r2.dp rfl).l, shaped_tI xs, shaped_tI ys, by rw [eqv_lI]; exact q _ H (Ex.refl H) (.inl (.bl _))⟩
theorem rv_eqG (nd : isDict d = false) (ne : isDict e = false) (sd : SeqAt.shaped d = true) (se : SeqAt.shaped e = true) : RvR K (rEqD K) d e (.bool (PyData.eqv d e)) := fun _ _ H r1 r2 Q q => ⟨_, _, (r1.dp nd).l, (r2.dp ne).l, sd, se, q _ H (Ex.refl H) (.inl (.bl _))⟩
theorem rv_neG (nd : isDict d = false) (ne : isDict e = false) (sd : SeqAt.shaped d = true) (se : SeqAt.shaped e = true) : RvR K (rNeD K) d e (.bool (!PyData.eqv d e)) := fun _ _ H r1 r2 Q q => ⟨_, _, (r1.dp nd).l, (r2.dp ne).l, sd, se, q _ H (Ex.refl H) (.inl (.bl _))⟩
theorem any_eqv_ints (k : Int) (ns : List Int) : ((ns.map PyData.int).any fun z => PyData.eqv z (.int k)) = decide (k ∈ ns) := by
  induction ns with
  | nil => simp
  | cons n ns ih =>
    rw [List.map_cons, List.any_cons, ih, eqv_int]
    by_cases h : n = k
    · subst h; simp
    · have h' : ¬ k = n := fun z => h z.symm
      simp [h, h', List.mem_cons]
theorem rv_inLI {ns : List Int} : RvR K (rInA K false) (.int k) (lI ns) (.bool (decide (k ∈ ns))) := fun _ _ H r1 r2 Q q => ⟨_, _, r1.dp rfl, .inl (r2.dp rfl), rfl, shaped_tI ns, by rw [any_eqv_ints]; exact q _ H (Ex.refl H) (.inl (.bl _))⟩
theorem rv_inTI {ns : List Int} : RvR K (rInA K false) (.int k) (tI ns) (.bool (decide (k ∈ ns))) := fun _ _ H r1 r2 Q q => ⟨_, _, r1.dp rfl, .inr (r2.dp rfl), rfl, shaped_tI ns, by rw [any_eqv_ints]; exact q _ H (Ex.refl H) (.inl (.bl _))⟩
theorem rv_niLI {ns : List Int} : RvR K (rInA K true) (.int k) (lI ns) (.bool (!decide (k ∈ ns))) := fun _ _ H r1 r2 Q q => ⟨_, _, r1.dp rfl, .inl (r2.dp rfl), rfl, shaped_tI ns, by rw [any_eqv_ints]; exact q _ H (Ex.refl H) (.inl (.bl _))⟩
theorem rv_niTI {ns : List Int} : RvR K (rInA K true) (.int k) (tI ns) (.bool (!decide (k ∈ ns))) := fun _ _ H r1 r2 Q q => ⟨_, _, r1.dp rfl, .inr (r2.dp rfl), rfl, shaped_tI ns, by rw [any_eqv_ints]; exact q _ H (Ex.refl H) (.inl (.bl _))⟩
theorem rv_inG (c : ds = es) (nd : isDict d = false) (sd : SeqAt.shaped d = true) (se : SeqAt.shaped (.list ds) = true) : RvR K (rInA K false) d (.tuple ds) (.bool (ds.any fun z => PyData.eqv z d)) := fun _ _ H r1 r2 Q q => ⟨_, _, r1.dp nd, .inr (r2.dp rfl), sd, se, q _ H (Ex.refl H) (.inl (.bl _))⟩
theorem rv_niG (nd : isDict d = false) (sd : SeqAt.shaped d = true) (se : SeqAt.shaped (.list ds) = true) : RvR K (rInA K true) d (.tuple ds) (.bool (!ds.any fun z => PyData.eqv z d)) := fun _ _ H r1 r2 Q q => ⟨_, _, r1.dp nd, .inr (r2.dp rfl), sd, se, q _ H (Ex.refl H) (.inl (.bl _))⟩
theorem lay_tIs : ∀ xss : List (List Int), PyData.canLayAll0 (xss.map tI) = true
  | [] => rfl
  | xs :: xss => by
    rw [List.map_cons, PyData.canLayAll0, lay_tIs xss]
    show (PyData.canLayAll0 (xs.map .int) && true) = true
    rw [lay_ints]
    rfl
theorem depth_tIs : ∀ xss : List (List Int), PyData.depthAll (xss.map tI) ≤ 1
  | [] => Nat.zero_le _
  | xs :: xss => by
    rw [List.map_cons, PyData.depthAll]
    have := depth_tIs xss
    have h : PyData.depth (tI xs) = 1 := by unfold PyData.depth; rw [depth_ints]
    omega
theorem shaped_tT (xss : List (List Int)) : SeqAt.shaped (.list (xss.map tI)) = true := by
  unfold SeqAt.shaped
  have h1 : PyData.canLay0 (.list (xss.map tI)) = true := lay_tIs xss
  have h2 : PyData.depth (.list (xss.map tI)) ≤ 64 := by
    unfold PyData.depth
    have := depth_tIs xss
    omega
  rw [h1, decide_eq_true h2]
  rfl
theorem any_eqv_tIs (ys : List Int) (xss : List (List Int)) : ((xss.map tI).any fun z => PyData.eqv z (tI ys)) = decide (ys ∈ xss) := by
  induction xss with
  | nil => simp
  | cons xs xss ih =>
    rw [List.map_cons, List.any_cons, ih, eqv_tI]
    by_cases h : xs = ys
    · subst h; simp
    · have h' : ¬ ys = xs := fun z => h z.symm
      simp [h, h', List.mem_cons]
theorem rv_niTT {xss : List (List Int)} {ys : List Int} : RvR K (rInA K true) (tI ys) (.tuple (xss.map tI)) (.bool (!decide (ys ∈ xss))) := fun _ _ H r1 r2 Q q => ⟨_, _, r1.dp rfl, .inr (r2.dp rfl), shaped_tI ys, shaped_tT xss, by rw [any_eqv_tIs]; exact q _ H (Ex.refl H) (.inl (.bl _))⟩
theorem rv_inTT {xss : List (List Int)} {ys : List Int} : RvR K (rInA K false) (tI ys) (.tuple (xss.map tI)) (.bool (decide (ys ∈ xss))) := fun _ _ H r1 r2 Q q => ⟨_, _, r1.dp rfl, .inr (r2.dp rfl), shaped_tI ys, shaped_tT xss, by rw [any_eqv_tIs]; exact q _ H (Ex.refl H) (.inl (.bl _))⟩
/-! calls of built-ins, by values -/
def RcR (K : PySem.W.Frag) (r : List V → Hp → VK → Prop) (ds : List D) (d : D) : Prop := ∀ vs H, RpAll K H vs ds → ∀ Q : VK, (∀ v H', Ex H H' → Rp K H' v d → Q v H') → r vs H Q
theorem ev_cbR {r : List V → Hp → VK → Prop} {t : TA} (h : EvAs K t Γ ds) (hr : RcR K r ds d) : EvR K (tCB r t) Γ d := ev_cb h hr
theorem rc_abs : RcR K rAbs [.int i] (.int (if i < 0 then -i else i)) := fun vs H r Q q => by
  obtain ⟨v, rfl, r1⟩ := rp1 r
  exact ⟨i, by rw [r1.int], q _ H (Ex.refl H) (.inl (.int _))⟩
theorem rc_max : RcR K rMax2' [.int i, .int j] (.int (if j > i then j else i)) := fun vs H r Q q => by
  obtain ⟨v, w, rfl, r1, r2⟩ := rp2 r
  exact ⟨i, j, by rw [r1.int, r2.int], q _ H (Ex.refl H) (.inl (.int _))⟩
theorem rc_min : RcR K (rMinX K) [.int i, .int j] (.int (if j < i then j else i)) := fun vs H r Q q => by
  obtain ⟨v, w, rfl, r1, r2⟩ := rp2 r
  exact .inl ⟨i, j, by rw [r1.int, r2.int], q _ H (Ex.refl H) (.inl (.int _))⟩
theorem rc_minT {n : Int} {ns : List Int} : RcR K (rMinX K) [tI (n :: ns)] (.int (ns.foldl min n)) := fun vs H r Q q => by
  obtain ⟨v, rfl, r1⟩ := rp1 r
  obtain ⟨a, ws, rfl, hs, hd⟩ := r1.tup
  rw [DpAll.ints hd] at hs
  exact .inr ⟨a, n, ns, rfl, hs, q _ H (Ex.refl H) (.inl (.int _))⟩
theorem rc_intI : RcR K rInt1 [.int i] (.int i) := fun vs H r Q q => by
  obtain ⟨v, rfl, r1⟩ := rp1 r
  exact .inl ⟨i, by rw [r1.int], q _ H (Ex.refl H) (.inl (.int _))⟩
theorem rc_intB : RcR K rInt1 [.bool a] (.int (if a then 1 else 0)) := fun vs H r Q q => by
  obtain ⟨v, rfl, r1⟩ := rp1 r
  exact .inr ⟨a, by rw [r1.bool], q _ H (Ex.refl H) (.inl (.int _))⟩
theorem rc_lenT : RcR K (rLenS' K) [.tuple ds] (.int (ds.length : Int)) := fun vs H r Q q => by
  obtain ⟨v, rfl, r1⟩ := rp1 r
  obtain ⟨a, ws, rfl, hs, hd⟩ := r1.tup
  exact ⟨a, ws, rfl, .inr hs, q _ H (Ex.refl H) (.inl (by rw [DpAll.length hd]; exact .int _))⟩
theorem rc_lenL : RcR K (rLenS' K) [.list ds] (.int (ds.length : Int)) := fun vs H r Q q => by
  obtain ⟨v, rfl, r1⟩ := rp1 r
  obtain ⟨a, ws, rfl, hs, hd⟩ := r1.lst
  exact ⟨a, ws, rfl, .inl hs, q _ H (Ex.refl H) (.inl (by rw [DpAll.length hd]; exact .int _))⟩
theorem rc_lenTI {ns : List Int} : RcR K (rLenS' K) [tI ns] (.int (ns.length : Int)) := by
  have := rc_lenT (K := K) (ds := ns.map .int)
  rw [List.length_map] at this
  exact this
theorem rc_lenLI {ns : List Int} : RcR K (rLenS' K) [lI ns] (.int (ns.length : Int)) := by
  have := rc_lenL (K := K) (ds := ns.map .int)
  rw [List.length_map] at this
  exact this
theorem rc_tupL : RcR K (rTupOf K) [.list ds] (.tuple ds) := fun vs H r Q q => by
  obtain ⟨v, rfl, r1⟩ := rp1 r
  obtain ⟨a, ws, rfl, hs, hd⟩ := r1.lst
  exact ⟨a, ws, rfl, .inl ⟨hs, fun l hl => q _ _ (Ex.new hl) (.inl (.tup (st_of upd_same) (DpAll.mono (Ex.new hl) hd)))⟩⟩
theorem rc_tupT : RcR K (rTupOf K) [.tuple ds] (.tuple ds) := fun vs H r Q q => by
  obtain ⟨v, rfl, r1⟩ := rp1 r
  obtain ⟨a, ws, rfl, hs, hd⟩ := r1.tup
  exact ⟨a, ws, rfl, .inr ⟨hs, q _ H (Ex.refl H) (.inl (.tup hs hd))⟩⟩
theorem rc_sum {ns : List Int} : RcR K (rSum K) [lI ns] (.int ns.sum) := fun vs H r Q q => by
  obtain ⟨v, rfl, r1⟩ := rp1 r
  obtain ⟨a, ws, rfl, hs, hd⟩ := r1.lst
  rw [DpAll.ints hd] at hs
  exact ⟨a, ns, rfl, hs, q _ H (Ex.refl H) (.inl (.int _))⟩
theorem rc_all {bs : List Bool} : RcR K (rAll K) [.list (bs.map .bool)] (.bool (bs.all id)) := fun vs H r Q q => by
  obtain ⟨v, rfl, r1⟩ := rp1 r
  obtain ⟨a, ws, rfl, hs, hd⟩ := r1.lst
  rw [DpAll.bls hd] at hs
  exact ⟨a, bs, rfl, hs, q _ H (Ex.refl H) (.inl (.bl _))⟩
/-! one place -/
def RuR (K : PySem.W.Frag) (r : V → Hp → VK → Prop) (d e : D) : Prop := ∀ x H, Rp K H x d → ∀ Q : VK, (∀ v H', Ex H H' → Rp K H' v e → Q v H') → r x H Q
theorem ev_un {r : V → Hp → VK → Prop} (ha : EvR K ta Γ d) (hr : RuR K r d e) : EvR K (tUn r ta) Γ e := fun σ H E Q q => ha σ H E _ fun v H1 e1 r1 => hr v H1 r1 Q fun w H2 e2 r2 => q w H2 (e1.trans e2) r2
theorem ru_neg : RuR K (rU fun i => .int (-i)) (.int i) (.int (-i)) := fun x H r Q q => ⟨i, r.int, q _ H (Ex.refl H) (.inl (.int _))⟩
theorem ev_opR {r : R2} (ha : EvR K ta Γ d) (hb : EvR K tb Γ e) (hr : RvR K r d e f) : EvR K (tOp r ta tb) Γ f := ev_op ha hb hr
/-! a sequence backwards, cut: by what it is -/
inductive RevD : D → D → Prop
  | lst (ds : List D) : RevD (.list ds) (.list ds.reverse)
  | tup (ds : List D) : RevD (.tuple ds) (.tuple ds.reverse)
theorem ev_revD (ha : EvR K te Γ d) (h : RevD d e) : EvR K (tRevX K te) Γ e := by
  cases h with
  | lst ds => exact (ef_revX ha).r
  | tup ds => exact ev_revX ha
inductive SlD (lo hi : Option Int) : D → D → Prop
  | lst (ds : List D) : SlD lo hi (.list ds) (.list (cutD ds lo hi))
  | tup (ds : List D) : SlD lo hi (.tuple ds) (.tuple (cutD ds lo hi))
theorem ev_slD {tl th : TO} {lo hi : Option Int} (ha : EvR K te Γ d) (hl : EvP K tl Γ lo) (hh : EvP K th Γ hi) (h : SlD lo hi d e) : EvR K (tSl (rSlX K) te tl th) Γ e := by
  cases h with
  | lst ds => exact (ef_slX_L ha hl hh).r
  | tup ds => exact ev_slX_T ha hl hh
theorem ev_callF {F : List D → List D → Prop} {t : TA} {E : XK} (h : EvAs K t Γ ds) (hF : F ds es) : EvR K (tCall (spF K F) [] E t) Γ (.list es) := (ef_call h hF).r
theorem rev_ints (ns : List Int) : (ns.map PyData.int).reverse = ns.reverse.map .int := List.map_reverse.symm
theorem cut_ints (ns : List Int) (k : Nat) : cutD (ns.map PyData.int) (some (k : Int)) none = (ns.drop k).map .int := by
  rw [cutD_from, List.map_drop]
def okT (ds : List D) : Bool := noDs ds && decide (ds.length ≤ 100000)
theorem ev_tupR {ta : TA} (h : EvAs K ta Γ ds) (n : okT ds = true) : EvR K (tTup ta) Γ (.tuple ds) := by
  simp only [okT, Bool.and_eq_true, decide_eq_true_eq] at n
  exact ev_tup h n.1 n.2
theorem ef_lstR {ta : TA} (h : EvAs K ta Γ ds) (n : okT ds = true) : EvF K (tLst ta) Γ ds := by
  simp only [okT, Bool.and_eq_true, decide_eq_true_eq] at n
  exact ef_lst h n.1 n.2
def IsiD (d : D) (T : String) (b : Bool) : Prop := isDict d = false ∧ d ≠ .none ∧ kitB (tyD d) T = some b
theorem ev_isiR {T : String} (ha : EvR K ta Γ d) (h : IsiD d T b) : EvR K (tCB (rIsi K) (tCons ta (tCons (tC (.ty T)) tNil))) Γ (.bool b) := ev_isi ha h.1 h.2.1 h.2.2
theorem isi_int : IsiD (.int i) "int" true := ⟨rfl, (by intro z; cases z), show kitB "int" "int" = some true by decide +kernel⟩
theorem isi_int_bool : IsiD (.int i) "bool" false := ⟨rfl, (by intro z; cases z), show kitB "int" "bool" = some false by decide +kernel⟩
theorem isi_tup : IsiD (.tuple ds) "tuple" true := ⟨rfl, (by intro z; cases z), show kitB "tuple" "tuple" = some true by decide +kernel⟩
theorem isi_str {x : Str} : IsiD (.str x) "str" true := ⟨rfl, (by intro z; cases z), show kitB "str" "str" = some true by decide +kernel⟩
/-- a chain of two comparisons of ints -/
theorem ev_chain {r r' : R2} {tc : TE} (ha : EvR K ta Γ d) (hb : EvR K tb Γ e) (hr : RvR K r d e (.bool a)) (hc : a = true → EvR K tc Γ f) (hr' : a = true → RvR K r' e f (.bool b)) : EvR K (tChain r r' ta tb tc) Γ (.bool (a && b)) := fun σ H E Q q =>
  ha σ H E _ fun x H1 e1 r1 => hb σ H1 (E.mono e1) _ fun y H2 e2 r2 => hr x y H2 (r1.mono e2) r2 _ fun z H3 e3 r3 => ⟨a, r3.bool, by
    have E3 := E.mono ((e1.trans e2).trans e3)
    cases a with
    | true =>
      refine iteT (hc rfl σ H3 E3 _ fun w H4 e4 r4 => hr' rfl y w H4 (r2.mono (e3.trans e4)) r4 Q fun v H5 e5 r5 => q v H5 ((((e1.trans e2).trans e3).trans e4).trans e5) r5)
    | false => exact iteF (q _ H3 ((e1.trans e2).trans e3) (.inl (.bl _)))⟩
end
/-! the rules with the written part named -/
section
variable {X : Cx} (K : PySem.W.Frag)
theorem op_addK (h : X.K = K) : OpR X (binaryOp .Add) (rAddX K) := h ▸ op_addX
theorem op_eqK (h : X.K = K) (hu : X.A.units + 64 < cLine) : OpR X (compareOp .Eq) (rEqD K) := h ▸ op_eqD hu
theorem op_neK (h : X.K = K) (hu : X.A.units + 64 < cLine) : OpR X (compareOp .NotEq) (rNeD K) := h ▸ op_neD hu
theorem op_inK (h : X.K = K) (hu : X.A.units + 65 < cLine) : OpR X (compareOp .In) (rInA K false) := h ▸ op_inA hu
theorem op_niK (h : X.K = K) (hu : X.A.units + 65 < cLine) : OpR X (compareOp .NotIn) (rInA K true) := h ▸ op_notInA hu
theorem ix_K (h : X.K = K) : IxR X (rIxX K) := h ▸ ix_X
theorem sl_K (h : X.K = K) : SlR X (rSlX K) := h ▸ sl_X
theorem len_K (h : X.K = K) : CallR X (.builtin "len") (rLenS' K) := h ▸ call_len_seq
theorem isi_K (h : X.K = K) : CallR X (.builtin "isinstance") (rIsi K) := h ▸ call_isi
theorem min_K (h : X.K = K) (hc : X.calm = true) (hu : X.A.units + 65 < cLine) : CallR X (.builtin "min") (rMinX K) := h ▸ cr_minX hc hu
theorem sum_K (h : X.K = K) (hc : X.calm = true) : CallR X (.builtin "sum") (rSum K) := h ▸ cr_sum hc
theorem all_K (h : X.K = K) (hc : X.calm = true) : CallR X (.builtin "all") (rAll K) := h ▸ cr_all hc
theorem setOf_K {w : World} (h : X.K = K) (h2 : X.w = w) (hc : X.calm = true) : CallR X (.type "set") (rSetOf K w) := h ▸ h2 ▸ cr_setOf hc
theorem sortedSet_K {w : World} (h2 : X.w = w) (hc : X.calm = true) : CallR X (.builtin "sorted") (rSortedSet w) := h2 ▸ cr_sortedSet hc
theorem tupOf_K (h : X.K = K) : CallR X (.type "tuple") (rTupOf K) := h ▸ cr_tupOf
theorem listOf_K (h : X.K = K) : CallR X (.type "list") (rListOf K) := h ▸ call_list_of
theorem seq_K (h : X.K = K) {tg l : Expr} {tl : TE} (hl : PE X l tl) : PI X tg l (iSeq K tl) := h ▸ pi_seq hl
theorem rev_K (h : X.K = K) {e : Expr} {te : TE} {k : Nat} {p1 p2 p3 pos : Pos} (he : PE X e te) : PE X (.Subscript e (.Slice none none (some (.UnaryOp .USub (.Constant (.int 1) k p1) p2)) p3) pos) (tRevX K te) := h ▸ pe_revX he
theorem tup_K (h : X.K = K) {es : List Expr} {k : Nat} {t : TGs} {n : Nat} {pos : Pos} (hc : X.calm = true) (ht : PGs X es t) (hn : (assignEach es X.env).length = n := by rfl) (hst : (assignEach es X.env).findIdx? (·.1) = none := by rfl) : PG X (.Tuple es k pos) (gTup K n t) := h ▸ pg_tup hc ht hn hst
end
end KW

set_option Elab.async false
set_option linter.all false
set_option maxRecDepth 100000
set_option maxHeartbeats 8000000
/-! a pool of numbers with its place: what is drawn from it -/
namespace KW
open PySem PySem.Spec PyProof.Rows L2 Evl
def PoolAt (H : Hp) (l c : Addr) (at' : Int) : Prop := ∃ (r : Addr) (ns : List Int), H l = some (.lst [.ref r, .ref c]) ∧ H r = some (.lst (ns.map .int)) ∧ H c = some (.lst [.int at']) ∧ l ≠ c ∧ r ≠ c ∧ 0 ≤ at' ∧ 0 < ns.length ∧ ns.length ≤ 80 ∧ ∀ x ∈ ns, 0 ≤ x ∧ x < (4096 : Int)
/-- hands back some data for which Fr holds, and turns the pool's place on -/
def spX (K : PySem.W.Frag) (ok : List D → Prop) (Fr : List D → D → Prop) (cost : Nat) : Sp := fun vs H Q _ => ∃ l c at' ws ds, vs = .ref l :: ws ∧ PoolAt H l c at' ∧ at' + cost ≤ 1000000 ∧ RpAll K H ws ds ∧ ok ds ∧
  ∀ d v H' a2, Fr ds d → noL d = true → Dp K H' v d → (∀ a o, a ≠ c → H a = some o → H' a = some o) → H' c = some (.lst [.int a2]) → 0 ≤ a2 → a2 ≤ at' + cost → Q v H'
/-- how many cells are taken -/
abbrev poolN (len : Int) : Int := if (if len > 1 then len else 1) < 4 then (if len > 1 then len else 1) else 4
def spPool (K : PySem.W.Frag) : Sp := fun vs H Q _ => ∃ ns : List Int, RpAll K H vs [lI ns] ∧ ns.length ≤ 1000 ∧ ∀ (l r c : Addr) (ms : List Int) (H' : Hp), H l = none → H r = none → H c = none → l ≠ c → r ≠ c → Ex H H' → H' l = some (.lst [.ref r, .ref c]) → H' r = some (.lst (ms.map .int)) → H' c = some (.lst [.int 0]) →
  0 < ms.length → ms.length ≤ 80 → (∀ x ∈ ms, 0 ≤ x ∧ x < (4096 : Int)) → Q (.ref l) H'
/-- what evaluates to some data, the state turned -/
def Xv (K : PySem.W.Frag) (te : TE) (S S' : SS) (R : D → Prop) : Prop := ∀ B σ H, SB K B H σ S → ∀ Q : VK, (∀ d v B' H', Ex B B' → R d → noL d = true → Rp K B' v d → SB K B' H' σ S' → Q v H') → te σ H Q
section
variable {K : PySem.W.Frag} {S S1 S2 : SS} {ta tb te tn : TE} {R R1 R2 : D → Prop} {ip m cost : Nat}
/-- the pool's slot is turned on -/
theorem SA.turn {Hm H H' : Hp} {σ : L2.St} {A : Nat → List Addr} {l c : Addr} {a2 : Int} (sa : SA K Hm H σ S A) (hs : S[ip]? = some (.pl l c m)) (hv : σ[ip]? = some (some (.ref l))) (ho : Own K (.pl l c m) (.ref l) Hm H (A ip)) (hA : A ip = [c])
    (x : ∀ a o, a ≠ c → H a = some o → H' a = some o) (hc : H' c = some (.lst [.int a2])) (h0 : 0 ≤ a2) (h1 : a2 ≤ (m : Int) + cost) : SA K (strip H' A) H' σ (S.set ip (.pl l c (m + cost))) A ∧ Ex Hm (strip H' A) := by
  have hcA : c ∈ A ip := by rw [hA]; simp
  have ex : Ex Hm (strip H' A) := fun a o q => by
    have na : ∀ i, a ∉ A i := fun i hi => by rw [sa.out i a hi] at q; cases q
    have ne : a ≠ c := fun z => by subst z; exact na ip hcA
    rw [strip_out na]
    exact x a o ne (sa.ex a o q)
  refine ⟨⟨strip_ex, by simp [sa.len], fun k e q n => ?_, fun k q => ?_, sa.sep, fun k a ha => strip_in ha⟩, ex⟩
  · by_cases hk : ip = k
    · subst hk
      have hi : ip < S.length := (List.getElem?_eq_some_iff.mp hs).1
      rw [List.getElem?_set_self hi] at q
      cases q
      obtain ⟨r, ns, a0, e1, e2, g1, g2, g3, g4⟩ := ho
      exact ⟨.ref l, hv, r, ns, a2, rfl, hA, ex _ _ g1, ex _ _ g2, hc, h0, by simpa using h1, g4.2.2⟩
    · rw [List.getElem?_set_ne hk] at q
      obtain ⟨v', w1, w2⟩ := sa.own k e q n
      refine ⟨v', w1, w2.kept ex fun a ha o z => x a o ?_ z⟩
      exact fun z => by subst z; exact sa.sep ip k a hk hcA ha
  · by_cases hk : ip = k
    · subst hk
      have hi : ip < S.length := (List.getElem?_eq_some_iff.mp hs).1
      rw [List.getElem?_set_self hi] at q
      rcases q with q | q <;> cases q
    · rw [List.getElem?_set_ne hk] at q
      exact sa.empty k q
theorem xv_call {l c : Addr} {ok : List D → Prop} {Fr : List D → D → Prop} {t : TA} {ds : List D} (hs : S[ip]? = some (.pl l c m)) (h : EvAs K t (gm S) ds) (ho : ok ds) (hm : m + cost ≤ 1000000) : Xv K (tCall (spX K ok Fr cost) [] E0 (tCons (tVar ip) t)) S (S.set ip (.pl l c (m + cost))) (Fr ds) := fun B σ H sb Q q => by
  obtain ⟨Hm, A, eB, sa⟩ := sb
  obtain ⟨v, hv, hown⟩ := sa.own ip _ hs (by intro z; cases z)
  obtain ⟨r, ns, at', rfl, hA, g1, g2, g3, g4, g5, g6, g7, g8⟩ := id hown
  refine ⟨_, hv, h σ H sa.env _ fun ws H1 e1 r1 => ?_⟩
  show spX K ok Fr cost (.ref l :: (ws ++ [])) H1 Q E0
  rw [List.append_nil]
  have sa1 := sa.grow e1
  have hown1 : Own K (.pl l c m) (.ref l) (strip H1 A) H1 (A ip) := hown.kept (sa.strip_of e1) fun a _ o z => e1 a o z
  have hcA : c ∈ A ip := by rw [hA]; simp
  have hc0 : Hm c = none := sa.out ip c hcA
  refine ⟨l, c, at', ws, ds, rfl, ⟨r, ns, e1 _ _ (sa.ex _ _ g1), e1 _ _ (sa.ex _ _ g2), e1 _ _ g3, ?_, ?_, g4, g6, g7, g8⟩, by omega, r1, ho, fun d v H' a2 hF n hd fr hc h1 h2 => ?_⟩
  · rintro rfl; rw [hc0] at g1; cases g1
  · rintro rfl; rw [hc0] at g2; cases g2
  · obtain ⟨sa2, ex2⟩ := sa1.turn (cost := cost) hs hv hown1 hA fr hc (by omega) (by omega)
    refine q d v _ H' ((eB.trans (sa.strip_of e1)).trans ex2) hF n ?_ ⟨_, A, Ex.refl _, sa2⟩
    exact Rp.mapT (sa2.sqT (Ex.refl H')) n (.inl hd)
theorem xv_add {a : Int} (h : Xv K tb S S1 R) (hR : ∀ d, R d → ∃ i, d = .int i) : Xv K (tOp (rAddX K) (tC (.int a)) tb) S S1 (fun d => ∃ i, R (.int i) ∧ d = .int (a + i)) := fun B σ H sb Q q => h B σ H sb _ fun d v B' H' e r n rp sb' => by
  obtain ⟨i, rfl⟩ := hR d r
  exact .inl ⟨a, i, rfl, rp.int, q _ _ B' H' e ⟨i, r, rfl⟩ rfl (.inl (.int _)) sb'⟩
/-- an item of a list that stands in a slot, at a drawn place -/
theorem xv_ix {iu : Nat} {ds : List D} (hu : S[iu]? = some (.im (.list ds))) (hd : noLs ds = true) (h : Xv K tb S S1 R) (hR : ∀ d, R d → ∃ i : Nat, d = .int (i : Int) ∧ i < ds.length) : Xv K (tOp (rIxX K) (tVar iu) tb) S S1 (fun d => ∃ i : Nat, R (.int (i : Int)) ∧ ds[i]? = some d) := fun B σ H sb Q q => by
  obtain ⟨Hm, A, eB, sa⟩ := sb
  obtain ⟨v, hv, hown⟩ := sa.own iu _ hu (by intro z; cases z)
  obtain ⟨a, vs, rfl, hl, hda⟩ := hown.1.lst
  refine ⟨_, hv, h Hm σ H ⟨Hm, A, Ex.refl _, sa⟩ _ fun d w B' H' e r n rp sb' => ?_⟩
  obtain ⟨i, rfl, hi⟩ := hR d r
  have hl' : SqL K B' a vs := ex_l e hl
  have hda' := DpAll.mono e hda
  obtain ⟨x, h1, h2⟩ := DpAll.get hda' (List.getElem?_eq_getElem hi)
  have nx : noL ds[i] = true := noLs_all.mp hd _ (List.getElem_mem hi)
  exact .inl ⟨a, vs, i, x, rfl, rp.int, ex_l sb'.ex hl', atI_nat h1, q ds[i] x B' H' (eB.trans e) ⟨i, r, List.getElem?_eq_getElem hi⟩ nx (.inl h2) sb'⟩
theorem Xv.pure {d : D} (h : EvR K te (gm S) d) (n : noL d = true) : Xv K te S S (fun e => e = d) := fun B σ H sb Q q => h σ H sb.env _ fun v H1 e1 r1 => by
  obtain ⟨Hm, A, eB, sa⟩ := sb
  exact q d v _ H1 (eB.trans (sa.strip_of e1)) rfl n (Rp.mapT (sa.sqT e1) n r1) ⟨_, A, Ex.refl _, sa.grow e1⟩
theorem Xv.imp (h : Xv K te S S1 R) (i : ∀ d, R d → R1 d) : Xv K te S S1 R1 := fun B σ H sb Q q => h B σ H sb Q fun d v B' H' e r n rp sb' => q d v B' H' e (i d r) n rp sb'
theorem SB.putB {B B' H : Hp} {σ : L2.St} {d : D} {v : V} {i : Nat} (sb : SB K B' H σ S) (r : Rp K B' v d) (hi : i < S.length) : SB K B' H (σ.set i (some v)) (S.set i (.im d)) := by
  obtain ⟨Hm, A, a, sa⟩ := sb
  exact ⟨_, _, a, sa.putIm hi (r.mono a)⟩
variable {B : Hp} {P : Post} {i j : Nat}
theorem run_setX (h : Xv K te S S1 R) (hi : i < S1.length) (k : ∀ d, R d → P.nx (S1.set i (.im d))) : Run K B (tAsg te (gName i)) S P := fun B' e D σ H sb nx rt bk ct =>
  h B' σ H sb _ fun d v B2 H1 eB r n rp sb1 => nx _ H1 _ ((sb1.putB (B := B) rp hi).mono eB) (k d r)
theorem run_par2X (h1 : Xv K ta S S1 R1) (h2 : Xv K tb S1 S2 R2) (hi : i < S2.length) (hj : j < S2.length) (k : ∀ d e, R1 d → R2 e → P.nx ((S2.set i (.im d)).set j (.im e))) : Run K B (tPar i j (tCons ta (tCons tb tNil))) S P := fun B' e D σ H sb nx rt bk ct =>
  h1 B' σ H sb _ fun d v B1 H1 e1 r1 n1 rp1 sb1 => h2 B1 σ H1 sb1 _ fun d2 w B2 H2 e2 r2 n2 rp2 sb2 => ⟨v, w, rfl, nx _ H2 _ (((sb2.putB (B := B) (rp1.mono e2) hi).putB (B := B) rp2 (by simpa using hj)).mono (e1.trans e2)) (k d d2 r1 r2)⟩
theorem run_tup2X (h1 : Xv K ta S S1 R1) (h2 : Xv K tb S1 S2 R2) (hi : i < S2.length) (hj : j < S2.length) (k : ∀ d e, R1 d → R2 e → P.nx ((S2.set i (.im d)).set j (.im e))) :
    Run K B (tAsg (tTup (tCons ta (tCons tb tNil))) (gTup K 2 (gCons (gName i) (gCons (gName j) gNil)))) S P := fun B' e D σ H sb nx rt bk ct =>
  h1 B' σ H sb _ fun d v B1 H1 e1 r1 n1 rp1 sb1 => h2 B1 σ H1 sb1 _ fun d2 w B2 H2 e2 r2 n2 rp2 sb2 => ⟨by show 2 ≤ sizeLine; decide, fun {its} p hp => by
    have sb3 := sb2.grow (Ex.new hp (o := XT its [v, w]))
    exact ⟨p, [v, w], rfl, (st_of upd_same).t (K := K), rfl, v, [w], rfl, w, [], rfl, rfl, nx _ _ _ (((sb3.putB (B := B) (rp1.mono e2) hi).putB (B := B) rp2 (by simpa using hj)).mono (e1.trans e2)) (k d d2 r1 r2)⟩⟩
/-- a tuple of data taken apart -/
theorem run_unpack {d : D} {g : TG} {js : List (Nat × D)} (h : EvR K te (gm S) d) (n : noL d = true) (hg : Tg K g d js) (hj : ∀ p ∈ js, p.1 < S.length) (k : P.nx (setS S js)) : Run K B (tAsg te g) S P := fun B' e D σ H sb nx rt bk ct =>
  h σ H sb.env _ fun v H1 e1 r1 => by
    obtain ⟨Hm, A, eB, sa⟩ := sb
    have sa1 := sa.grow e1
    obtain ⟨ws, jw, gq⟩ := hg v _ (Rp.mapT (sa.sqT e1) n r1)
    obtain ⟨A', sa2⟩ := jw.sa hj sa1
    exact gq H1 strip_ex σ _ (nx _ H1 _ ⟨_, A', eB.trans (sa.strip_of e1), sa2⟩ k)
/-- xs = xs + a new list -/
theorem run_cat {ds es : List D} (hs : S[i]? = some (.ow ds)) (h : EvF K tb (gm S) es) (n : noLs es = true) (hl : ds.length + es.length ≤ 100000) (k : P.nx (S.set i (.ow (ds ++ es)))) : Run K B (tAsg (tOp (rAddX K) (tVar i) tb) (gName i)) S P := fun B' e D σ H sb nx rt bk ct => by
  have sbk := sb
  obtain ⟨Hm, A, eB, sa⟩ := sb
  obtain ⟨v, hv, ho⟩ := sa.own i _ hs (by intro z; cases z)
  obtain ⟨l, vs, rfl, hA, hl', hd⟩ := ho
  have hiS : i < S.length := (List.getElem?_eq_some_iff.mp hs).1
  have hlA : l ∈ A i := by rw [hA]; simp
  refine ⟨_, hv, h σ H sa.env _ fun p ws H1 np e1 hp he => .inr (.inr ⟨l, p, vs, ws, rfl, rfl, e1 _ _ hl', hp, sz_of (by rw [DpAll.length hd, DpAll.length he]; exact hl), fun q hq => ?_⟩)⟩
  -- the slot is let go, then holds the new list
  have sa1 := sa.grow e1
  have hq0 : H q = none := fresh_back e1 hq
  have ex2 : Ex H (upd H1 q (.lst (vs ++ ws))) := e1.trans (Ex.new hq)
  have sa2 := sa.grow ex2
  have np' : ∀ k, q ∉ A k := fresh_own sa hq0
  let Hm2 := del (strip (upd H1 q (.lst (vs ++ ws))) A) q
  have npm : Hm q = none := by
    cases z : Hm q with
    | none => rfl
    | some o => rw [sa.ex q o z] at hq0; cases hq0
  have e3 : Ex Hm Hm2 := fun c o z => by
    have : c ≠ q := fun y => by subst y; rw [npm] at z; cases z
    show del _ q c = some o
    rw [del_ne this]
    exact sa.strip_of ex2 c o z
  have sa3 : SA K Hm2 (upd H1 q (.lst (vs ++ ws))) σ S A :=
    { ex := del_ex.trans strip_ex, len := sa.len, empty := sa.empty, sep := sa.sep
      own := fun k e' z m => by
        obtain ⟨v, x, y⟩ := sa.own k e' z m
        exact ⟨v, x, y.kept e3 fun c _ o z => ex2 c o z⟩
      out := fun k c hc => by
        show del _ q c = none
        by_cases z : c = q
        · subst z; exact del_same
        · rw [del_ne z]; exact strip_in hc }
  have ft : ∀ b ys, SqT K (upd H1 q (.lst (vs ++ ws))) b ys → SqT K Hm2 b ys := fun b ys z => del_sqT (D := q) (xs := vs ++ ws) (by rw [strip_out np']; exact upd_same) b ys (sa.sqT ex2 b ys z)
  have hes : DpAll K Hm2 ws es := DpAll.mapT ft es ws n (DpAll.mono (Ex.new hq) he)
  have sa4 := sa3.put (i := i) (v := .ref q) (e := .ow (ds ++ es)) (as := [q]) hiS ⟨q, vs ++ ws, rfl, rfl, upd_same, DpAll.append (DpAll.mono e3 hd) hes⟩ (fun k c _ hc hk => by
    rw [List.mem_singleton.mp hc] at hk
    exact np' k hk) (fun c hc => by rw [List.mem_singleton.mp hc]; exact del_same) (fun z => by cases z)
  exact nx _ _ _ ⟨_, _, eB.trans e3, sa4⟩ k
theorem run_setPool {ns : List Int} {ta : TA} (h : EvAs K ta (gm S) [lI ns]) (hn : ns.length ≤ 1000) (hi : i < S.length) (k : ∀ l c, P.nx (S.set i (.pl l c 0))) : Run K B (tAsg (tCall (spPool K) [] E0 ta) (gName i)) S P := fun B' e D σ H sb nx rt bk ct => by
  obtain ⟨Hm, A, eB, sa⟩ := sb
  refine h σ H sa.env _ fun vs H1 e1 r1 => ?_
  show spPool K (vs ++ []) H1 _ E0
  rw [List.append_nil]
  refine ⟨ns, r1, hn, fun l r c ms H' fl fr fc n1 n2 x hl hr hc h0 h80 hms => ?_⟩
  have ex2 := e1.trans x
  have al : ∀ k, l ∉ A k := fresh_own sa (fresh_back e1 fl)
  have ar : ∀ k, r ∉ A k := fresh_own sa (fresh_back e1 fr)
  have ac : ∀ k, c ∉ A k := fresh_own sa (fresh_back e1 fc)
  have hcm : Hm c = none := by
    cases z : Hm c with
    | none => rfl
    | some o => rw [e1 c o (sa.ex c o z)] at fc; cases fc
  have e3 : Ex Hm (del (strip H' A) c) := fun a o z => by
    have : a ≠ c := fun y => by subst y; rw [hcm] at z; cases z
    rw [del_ne this]
    exact sa.strip_of ex2 a o z
  have sa3 : SA K (del (strip H' A) c) H' σ S A :=
    { ex := del_ex.trans strip_ex, len := sa.len, empty := sa.empty, sep := sa.sep
      own := fun k e' z m => by
        obtain ⟨v, x, y⟩ := sa.own k e' z m
        exact ⟨v, x, y.kept e3 fun c _ o z => ex2 c o z⟩
      out := fun k a ha => by
        by_cases z : a = c
        · subst z; exact del_same
        · rw [del_ne z]; exact strip_in ha }
  have sa4 := sa3.put (i := i) (v := .ref l) (e := .pl l c 0) (as := [c]) hi ⟨r, ms, 0, rfl, rfl, by rw [del_ne n1, strip_out al]; exact hl, by rw [del_ne n2, strip_out ar]; exact hr, hc, Int.le_refl _, by omega, h0, h80, hms⟩
    (fun k a _ ha hk => by
      rw [List.mem_singleton.mp ha] at hk
      exact ac k hk) (fun a ha => by rw [List.mem_singleton.mp ha]; exact del_same) (fun z => by cases z)
  exact nx _ _ _ ⟨_, _, eB.trans e3, sa4⟩ (k l c)
end
end KW

set_option Elab.async false
set_option linter.all false
set_option maxRecDepth 100000
set_option maxHeartbeats 8000000
/-! t.index(k) of a tuple of ints; range downwards; t * 0, t * 1; xs.index, xs.pop of own lists; two items set at once from a call -/
namespace KW
open PySem PySem.Spec PyProof.Rows L2 Evl
section
variable {X : Cx}
def rTix (K : PySem.W.Frag) : V → List V → Hp → VK → Prop := fun x xs H Q => ∃ (p : Addr) (ns : List Int) (k : Int) (j : Nat), x = .ref p ∧ xs = [.int k] ∧ L2.SqT K H p (ns.map V.int) ∧ ns[j]? = some k ∧ (∀ m, m < j → ns[m]? ≠ some k) ∧ Q (.int (j : Nat)) H
theorem flat_ints (ys : List Int) : (ys.map V.int).all flatV = true := by
  rw [List.all_map]
  exact List.all_eq_true.mpr fun _ _ => rfl
theorem mt_tix : MtR X "tuple.index" (rTix X.K) := by
  intro pins s σ H x xs v us Q I rx rs h
  obtain ⟨p, ns, k, j, rfl, rfl, hq, hy, hno, q⟩ := h
  cases rx
  obtain ⟨u, rfl, t, rfl⟩ := vals1 rs
  obtain ⟨its, r, pl, hz⟩ := I.tuple hq
  obtain ⟨⟨c1, d1, e1, l1⟩, ho, hc, n, hd⟩ := pl
  simp only at hc hd
  subst hc hd
  have hl : its.toArray.size = ns.length := by rw [List.size_toArray, ← r.length, List.length_map]
  have jn : j < ns.length := (List.getElem?_eq_some_iff.mp hy).1
  have item : ∀ (m : Nat) (hm : m < its.toArray.size), ∃ y t', ns[m]? = some y ∧ its.toArray[m] = Value.int y t' := fun m hm => by
    have hm' : m < ns.length := by omega
    obtain ⟨w, hw, t', hw'⟩ := r.get (i := m) (x := .int ns[m]) (by simp [hm'])
    refine ⟨ns[m], t', List.getElem?_eq_getElem hm', ?_⟩
    have e := (List.getElem?_eq_some_iff.mp hw).2
    rw [← hw', ← e]
    simp
  refine call_meets PySem.F.slot_tuple_index ⟨_, ho, rfl⟩ PySem.F.entry_tuple_index (PySem.F.args_tuple_index_2 _ _) (TI.tuple_indexAt p its.toArray n d1 l1 (.int k t) (eqU (.int k)) j (by omega) ?hit ?no)
    ⟨ho, fun w hw => mem_eqAt (x := .int k) ⟨t, rfl⟩ rfl r (flat_ints ns) w (by simpa using hw), ⟨.int (j : Nat), H, I.tok _, ⟨_, rfl⟩, q⟩⟩
  case hit =>
    obtain ⟨y, t', h1, h2⟩ := item j (by omega)
    rw [hy] at h1
    cases h1
    rw [h2]
    show (k == k) = true
    exact beq_self_eq_true k
  case no =>
    intro m hm hmj
    obtain ⟨y, t', h1, h2⟩ := item m hm
    rw [h2]
    show (y == k) = false
    exact beq_eq_false_iff_ne.mpr fun e => hno m hmj (e ▸ h1)
/-- a method of a tuple whose object is known -/
def tBMT (r : V → List V → Hp → VK → Prop) (to : TE) (t : TA) : TE := fun σ H Q => to σ H fun x H1 => (∃ a its xs, x = .ref a ∧ H1 a = some (XT its xs)) ∧ t σ H1 fun xs H2 => r x xs H2 Q
theorem pe_bmT {o e : Expr} {es : List Expr} {to : TE} {t : TA} {name : Str} {apos cpos : Pos} {id : String} {r : V → List V → Hp → VK → Prop} (pa : PlainAttrs "tuple") (slot : Slot "tuple" name id) (hty : typeOf (.builtin id) = pure (.type "method_descriptor")) (hm : MtR X id r) (ho : PE X o to) (ha : PA X (e :: es) t)
    (hbase : attributeBase o name X.env (eval o X.env) = eval o X.env := by rfl)
    (hfew : ((backTo cpos (starEach (e :: es) X.env)).all (fun x => !x.1) && (backToKw cpos (keywordEach [] X.env)).all (fun x => x.1.isSome)
      && decide ((e :: es).length + ([] : List Keyword).length + (if ([] : List Keyword).isEmpty then 0 else 1) < 30)) = true := by rfl)
    (hline : (apos.endLine == cpos.line) = true := by rfl) (hs : starEach (e :: es) X.env = (false, eval e X.env) :: starEach es X.env := by rfl) (hplain : (backTo cpos (starEach es X.env)).any (·.1) = false := by rfl) :
    PE X (.Call (.Attribute o name apos) (e :: es) [] cpos) (tBMT r to t) := by
  refine ⟨fun pins s σ H Q I h => ?_⟩
  refine wpAny_Call_method_late hbase hfew hline rfl (thn (ho.run pins s σ H _ I h) fun v s1 ⟨x, H1, I1, r1, ⟨a, its, ys, ex, hx⟩, q1⟩ => ?_)
  subst ex
  obtain ⟨hg, _⟩ := (show ObjOk X.prog X.w H1 s1.heap a (.frz (tupO its) (.tup ys)) from I1.hok a _ hx)
  have e0 : v = .ref a := r1
  subst e0
  refine ⟨"tuple", id, pa, slot, hty, ⟨_, hg, rfl⟩, fun b eb => ?_, ?_⟩
  · cases eb
    exact ⟨_, hg, rfl⟩
  · have hA := ha.run cpos pins s1 σ H1 _ I1 q1
    rw [hs] at hA ⊢
    exact Calls.callWith_builtin (by show (false || (backTo cpos (starEach es X.env)).any (·.1)) = false; rw [hplain] <;> rfl) (Calls.evalArgs_plain (thn hA fun us s2 ⟨vs, H2, I2, r2, q2⟩ => hm pins s2 σ H2 (.ref a) vs (.ref a) us Q I2 rfl r2 q2))
theorem bm_K (K : PySem.W.Frag) (hK : X.K = K) {o e : Expr} {es : List Expr} {to : TE} {t : TA} {name : Str} {apos cpos : Pos} {T id : String} {r : V → List V → Hp → VK → Prop} (pa : PlainAttrs T) (slot : Slot T name id) (hty : typeOf (.builtin id) = pure (.type "method_descriptor")) (hm : MtR X id r) (ho : PE X o to) (ha : PA X (e :: es) t)
    (hbase : attributeBase o name X.env (eval o X.env) = eval o X.env := by rfl)
    (hfew : ((backTo cpos (starEach (e :: es) X.env)).all (fun x => !x.1) && (backToKw cpos (keywordEach [] X.env)).all (fun x => x.1.isSome)
      && decide ((e :: es).length + ([] : List Keyword).length + (if ([] : List Keyword).isEmpty then 0 else 1) < 30)) = true := by rfl)
    (hline : (apos.endLine == cpos.line) = true := by rfl) (hs : starEach (e :: es) X.env = (false, eval e X.env) :: starEach es X.env := by rfl) (hplain : (backTo cpos (starEach es X.env)).any (·.1) = false := by rfl) :
    PE X (.Call (.Attribute o name apos) (e :: es) [] cpos) (tBM K T r to t) := hK ▸ pe_bm pa slot hty hm ho ha hbase hfew hline hs hplain
theorem mtIdx_K (K : PySem.W.Frag) (hK : X.K = K) : MtR X "list.index" (rIndex K) := hK ▸ mt_index
theorem mtTix_K (K : PySem.W.Frag) (hK : X.K = K) : MtR X "tuple.index" (rTix K) := hK ▸ mt_tix
/-! t * 1, t * 0 -/
theorem tuple_mul_one (l : Addr) (items : Array Value) (n : Nat) (dd : Option Addr) (sl : Array (Option Value)) (u : Tok) :
    Meets (Builtin.«tuple.__mul__» ⟨[.ref l, .int 1 u], []⟩) (fun _ R s => s.heap.get? l = some { cls := .type "tuple", dict := dd, data := .seq items n, slots := sl } ∧ R (.ok (.ret (Value.ref l))) s) :=
  .of_wp fun prog w A R s h => by
    obtain ⟨hp, g, d, tk, os⟩ := s
    obtain ⟨hl, h⟩ := h
    have f1 := AutoSeq1.idx_int
    have c1 : (items.isEmpty || (1 : Int) == 1) = true := by simp
    wp_walk using wpAny_loadPart' hl
    repeat (first
      | (refine wpAny_ite_false (decide_eq_false (by decide)) ?_; wp_walk using wpAny_loadPart' hl)
      | (refine wpAny_ite_true (decide_eq_true (by rw [c1])) ?_; wp_walk using wpAny_loadPart' hl))
    all_goals (first | exact ⟨_, rfl, h⟩ | trace_state)
theorem tuple_mul_none (l : Addr) (items : Array Value) (n : Nat) (dd : Option Addr) (sl : Array (Option Value)) (u : Tok) (hne : items.isEmpty = false) :
    Meets (Builtin.«tuple.__mul__» ⟨[.ref l, .int 0 u], []⟩) (fun _ R s => s.heap.get? l = some { cls := .type "tuple", dict := dd, data := .seq items n, slots := sl } ∧
      R (.ok (.ret (Value.ref s.heap.objs.size))) { s with heap := s.heap.push { cls := Value.type "tuple", data := Data.seq #[] }, toks := s.toks }) :=
  .of_wp fun prog w A R s h => by
    obtain ⟨hp, g, d, tk, os⟩ := s
    obtain ⟨hl, h⟩ := h
    have f1 := AutoSeq1.idx_int
    have c1 : (items.isEmpty || (0 : Int) == 1) = false := by rw [hne]; rfl
    have c2 : (decide ((0 : Int) ≤ 0) || items.isEmpty) = true := by simp
    wp_walk using wpAny_loadPart' hl
    repeat (first
      | (refine wpAny_ite_false (decide_eq_false (by decide)) ?_; wp_walk using wpAny_loadPart' hl)
      | (refine wpAny_ite_false (decide_eq_false (by rw [c1]; exact Bool.false_ne_true)) ?_; wp_walk using wpAny_loadPart' hl)
      | (refine wpAny_ite_true (decide_eq_true (by rw [c2])) ?_; wp_walk using wpAny_loadPart' hl))
    exact ⟨_, rfl, h⟩
/-- t * 1 is t; t * 0 is () -/
def rRep01 (K : PySem.W.Frag) : R2 := fun x y H Q => ∃ l xs, x = .ref l ∧ L2.SqT K H l xs ∧ xs ≠ [] ∧ ((y = .int 1 ∧ Q (.ref l) H) ∨ (y = .int 0 ∧ ∀ {its : List Value} p, H p = none → Q (.ref p) (upd H p (XT its []))))
theorem op_rep01 : OpR X (binaryOp .Mult) (rRep01 X.K) := by
  intro pins s σ H x y v u Q I rx ry h
  obtain ⟨l, xs, rfl, hT, hne, h⟩ := h
  cases rx
  obtain ⟨its, r, ⟨⟨c1, d1, e1, l1⟩, ho, hc, n, hd⟩, hs⟩ := I.tuple hT
  simp only at hc hd
  subst hc hd
  have hi : its.toArray.isEmpty = false := by
    cases its with
    | nil =>
      cases r
      exact absurd rfl hne
    | cons a b => rfl
  rcases h with ⟨rfl, q⟩ | ⟨rfl, q⟩
  · obtain ⟨t, rfl⟩ := ry
    exact wpAny_binaryOp_repeat_ref (T := "tuple") (U := "int") (by decide) ⟨_, ho, rfl⟩ (fun s' => typeIs_int s' 1 t) noFill_tuple_mul F.fills_int_mul F.slot_int_rmul repeat_tuple F.slot_int_index.lookup
      (call_meets F.slot_int_rmul (typeIs_int s 1 t) F.entry_int_rmul (F.args_int_rmul_2 _ _) (int_rmul_tuple 1 t l its.toArray n d1 l1)
        ⟨ho, rfl, ⟨_, ho, rfl⟩, call_meets F.slot_tuple_mul ⟨_, ho, rfl⟩ F.entry_tuple_mul (F.args_tuple_mul_2 _ _) (tuple_mul_one l its.toArray n d1 l1 t) ⟨ho, ⟨.ref l, H, I, rfl, q⟩⟩⟩)
  · obtain ⟨t, rfl⟩ := ry
    exact wpAny_binaryOp_repeat_ref (T := "tuple") (U := "int") (by decide) ⟨_, ho, rfl⟩ (fun s' => typeIs_int s' 0 t) noFill_tuple_mul F.fills_int_mul F.slot_int_rmul repeat_tuple F.slot_int_index.lookup
      (call_meets F.slot_int_rmul (typeIs_int s 0 t) F.entry_int_rmul (F.args_int_rmul_2 _ _) (int_rmul_tuple 0 t l its.toArray n d1 l1)
        ⟨ho, rfl, ⟨_, ho, rfl⟩, call_meets F.slot_tuple_mul ⟨_, ho, rfl⟩ F.entry_tuple_mul (F.args_tuple_mul_2 _ _) (tuple_mul_none l its.toArray n d1 l1 t hi) ⟨ho, .ref s.heap.objs.size, _,
          I.laid (t' := s.toks) (fun b ob q => Heap.get?_push_of_some _ q) (Nat.le_refl _) (xt_ok (its := []) (Nat.zero_le _) .nil (Heap.get?_push_size _ rfl)), rfl, q _ (I.hok.fresh (Nat.le_refl _))⟩⟩)
end
section
variable {K : PySem.W.Frag} {Γ : G} {ta tb te to : TE} {i j k : Int} {ns : List Int}
theorem rv_rep1 {ds : List D} (h : ds ≠ []) : RvR K (rRep01 K) (.tuple ds) (.int 1) (.tuple ds) := fun x y H r1 r2 Q q => by
  obtain ⟨a, vs, rfl, hs, hd⟩ := r1.tup
  refine ⟨a, vs, rfl, hs, fun z => h ?_, .inl ⟨r2.int, q _ H (Ex.refl H) (.inl (.tup hs hd))⟩⟩
  have := DpAll.length hd
  rw [z] at this
  exact List.length_eq_zero_iff.mp this.symm
theorem rv_rep0 {ds : List D} (h : ds ≠ []) : RvR K (rRep01 K) (.tuple ds) (.int 0) (.tuple []) := fun x y H r1 r2 Q q => by
  obtain ⟨a, vs, rfl, hs, hd⟩ := r1.tup
  refine ⟨a, vs, rfl, hs, fun z => h ?_, .inr ⟨r2.int, fun p hp => q _ _ (Ex.new hp) (.inl (.tup (st_of upd_same) .nil))⟩⟩
  have := DpAll.length hd
  rw [z] at this
  exact List.length_eq_zero_iff.mp this.symm
/-- the place of k -/
theorem ev_tix (ho : EvR K to Γ (tI ns)) (ha : EvR K te Γ (.int k)) {p : Nat} (h1 : ns[p]? = some k) (h2 : ∀ m, m < p → ns[m]? ≠ some k) : EvR K (tBMT (rTix K) to (tCons te tNil)) Γ (.int (p : Int)) := fun σ H E Q q =>
  ho σ H E _ fun v H1 e1 r1 => by
    obtain ⟨a, vs, rfl, hs, hd⟩ := r1.tup
    rw [DpAll.ints hd] at hs
    refine ⟨let ⟨i, q⟩ := hs; ⟨a, i, _, rfl, q⟩, ha σ H1 (E.mono e1) _ fun w H2 e2 r2 => ?_⟩
    exact ⟨a, ns, k, p, rfl, by rw [r2.int], ex_t e2 hs, h1, h2, q _ H2 (e1.trans e2) (.inl (.int _))⟩
theorem ev_lix (ho : EvR K to Γ (lI ns)) (ha : EvR K te Γ (.int k)) {p : Nat} (h1 : ns[p]? = some k) (h2 : ∀ m, m < p → ns[m]? ≠ some k) : EvR K (tBM K "list" (rIndex K) to (tCons te tNil)) Γ (.int (p : Int)) := fun σ H E Q q =>
  ho σ H E _ fun v H1 e1 r1 => by
    obtain ⟨a, vs, rfl, hs, hd⟩ := r1.lst
    rw [DpAll.ints hd] at hs
    refine ⟨.inl ⟨rfl, _, hs⟩, ha σ H1 (E.mono e1) _ fun w H2 e2 r2 => ?_⟩
    refine ⟨a, ns.map V.int, .int k, p, .int k, rfl, by rw [r2.int], ex_l e2 hs, rfl, flat_ints ns, by rw [List.getElem?_map, h1]; rfl, by show (k == k) = true; exact beq_self_eq_true k, fun m z' hm hz => ?_, q _ H2 (e1.trans e2) (.inl (.int _))⟩
    rw [List.getElem?_map] at hz
    cases e : ns[m]? with
    | none => rw [e] at hz; cases hz
    | some y =>
      rw [e] at hz
      cases hz
      show (y == k) = false
      exact beq_eq_false_iff_ne.mpr fun z => h2 m hm (by rw [e, z])
/-! range(n - 1, 0, -1) -/
def dnI (hi : Int) (n : Nat) : List Int := (List.range n).map fun (i : Nat) => hi + (i : Int) * (-1)
theorem dnI_get {hi : Int} {n i : Nat} (h : i < n) : (dnI hi n)[i]? = some (hi + (i : Int) * (-1)) := by
  unfold dnI
  rw [List.getElem?_map, List.getElem?_range h]
  rfl
theorem walks_dn (B : Hp) (hi : Int) (n : Nat) : WalksD K (Itc hi (-1) n) B ((dnI hi n).map .int) := fun H' _ => by
  refine ⟨fun i d h => ?_, ?_⟩
  · have hi' : i < n := by
      obtain ⟨q, _⟩ := List.getElem?_eq_some_iff.mp h
      simpa [dnI] using q
    rw [List.getElem?_map, dnI_get hi'] at h
    cases h
    exact ⟨hi', fun x H'' y => by
      obtain ⟨e1, e2⟩ := y
      subst e1 e2
      exact ⟨Ex.refl _, .inl (.int _)⟩⟩
  · show n ≤ _
    simp [dnI]
theorem it_rng3 {t : TA} {hi lo : Int} (h : EvAs K t Γ [.int hi, .int lo, .int (-1)]) (hn : -(2 ^ 62) ≤ hi ∧ hi < 2 ^ 62 ∧ -(2 ^ 62) ≤ lo ∧ lo < 2 ^ 62) : EvIt K (iRng3 t) Γ ((dnI hi (hi - lo).toNat).map .int) := fun σ H E R q =>
  h σ H E _ fun vs H1 e1 r => by
    cases r with
    | cons r1 r =>
      obtain ⟨v, w, rfl, r2, r3⟩ := rp2 r
      exact ⟨hi, lo, -1, _, by rw [r1.int, r2.int, r3.int], RgC.neg hn.1 hn.2.1 hn.2.2.1 hn.2.2.2, q _ H1 e1 (walks_dn H1 hi _)⟩
end
section
variable {K : PySem.W.Frag} {S : SS} {B : Hp} {P : Post} {ta te : TE} {ds : List D} {d1 d2 : D} {i : Nat}
/-- xs[i], xs[j] = a tuple of two -/
theorem run_swapC {t1 t2 : TE} {k1 k2 : Int} {j1 j2 : Nat} (hs : S[i]? = some (.ow ds)) (ha : EvR K ta (gm S) (.tuple [d1, d2])) (n1 : noL d1 = true) (n2 : noL d2 = true) (h1 : EvR K t1 (gm S) (.int k1)) (hj1 : ixN ds.length k1 = some j1)
    (h2 : EvR K t2 (gm (S.set i (.ow (ds.set j1 d1)))) (.int k2)) (hj2 : ixN ds.length k2 = some j2) (k : P.nx (S.set i (.ow ((ds.set j1 d1).set j2 d2)))) :
    Run K B (tAsg ta (gTup K 2 (gCons (gSub (tVar i) t1 rSetL) (gCons (gSub (tVar i) t2 rSetL) gNil)))) S P := fun B' e D σ H sb nx rt bk ct => by
  obtain ⟨Hm, A, a, sa⟩ := sb
  obtain ⟨v, hv, ho⟩ := sa.own i _ hs (by intro z; cases z)
  obtain ⟨l, vs, rfl, hA, hl, hd⟩ := ho
  refine ha σ H sa.env _ fun w H3 e3 r => ?_
  have sa3 := sa.grow e3
  have hlA : l ∈ A i := by rw [hA]; simp
  have rr := Rp.mapT (sa.sqT e3) (by simp [noL, noLs, n1, n2]) r
  obtain ⟨q, ws, rfl, hq, hw⟩ := r.tup
  obtain ⟨q', ws', eq', hq', hw'⟩ := rr.tup
  cases eq'
  have hd3 := DpAll.mono (sa.strip_of e3) hd
  cases hw' with
  | cons x3 hw2 =>
  cases hw2 with
  | cons y3 hw3 =>
  cases hw3
  rename_i x y
  have hq3 : SqT K H3 q [x, y] := ex_t strip_ex hq'
  refine ⟨q, [x, y], rfl, hq3, rfl, x, [y], rfl, ?_⟩
  refine ⟨_, hv, h1 σ H3 sa3.env _ fun z H4 e4 r4 => ?_⟩
  rw [r4.int]
  have sa4 := sa3.grow e4
  have x4 := Dp.mono (sa3.strip_of e4) x3
  have y4 := Dp.mono (sa3.strip_of e4) y3
  have hd4 := DpAll.mono (sa3.strip_of e4) hd3
  have hl4 : H4 l = some (.lst vs) := e4 _ _ (e3 _ _ hl)
  refine ⟨l, vs, k1, j1, rfl, rfl, hl4, by rw [DpAll.length hd]; exact hj1, ?_⟩
  have sa5 : SA K (strip H4 A) (upd H4 l (.lst (vs.set j1 x))) σ (S.set i (.ow (ds.set j1 d1))) A :=
    sa4.write (e' := .ow (ds.set j1 d1)) hlA hv ⟨l, vs.set j1 x, rfl, hA, upd_same, DpAll.set j1 hd4 x4⟩ (by intro z; cases z)
  refine ⟨y, [], rfl, _, hv, h2 σ _ sa5.env _ fun z H6 e6 r6 => ?_⟩
  rw [r6.int]
  have sa6 := sa5.grow e6
  have hl6 : H6 l = some (.lst (vs.set j1 x)) := e6 _ _ upd_same
  refine ⟨l, vs.set j1 x, k2, j2, rfl, rfl, hl6, by rw [List.length_set, DpAll.length hd]; exact hj2, rfl, ?_⟩
  have y6 := Dp.mono (sa5.strip_of e6) y4
  have hd6 := DpAll.mono (sa5.strip_of e6) (DpAll.set j1 hd4 x4)
  have sa7 : SA K (strip H6 A) (upd H6 l (.lst ((vs.set j1 x).set j2 y))) σ ((S.set i (.ow (ds.set j1 d1))).set i (.ow ((ds.set j1 d1).set j2 d2))) A :=
    sa6.write (e' := .ow ((ds.set j1 d1).set j2 d2)) hlA hv ⟨l, (vs.set j1 x).set j2 y, rfl, hA, upd_same, DpAll.set j2 hd6 y6⟩ (by intro z; cases z)
  rw [List.set_set] at sa7
  exact nx _ _ _ ⟨_, A, ((a.trans (sa.strip_of e3)).trans (sa3.strip_of e4)).trans (sa5.strip_of e6), sa7⟩ k
end
end KW

set_option Elab.async false
set_option linter.all false
set_option maxRecDepth 100000
set_option maxHeartbeats 4000000
namespace KW
open PySem PySem.Spec PyProof.Rows L2 Evl
theorem run_mid {K : PySem.W.Frag} {B : Hp} {t u : TS} {S T : SS} {P : Post} (h : Run K B t S ⟨fun S' => S' = T, P.rt, P.bk, P.ct⟩) (k : Run K B u T P) : Run K B (tSeq t u) S P :=
  run_seq (h.imp (fun S' e => by subst e; exact k) (fun _ _ z => z) (fun _ z => z) (fun _ z => z))
theorem run_midE {K : PySem.W.Frag} {B : Hp} {t u : TS} {S : SS} {T : Sl → SS} {P : Post} (h : Run K B t S ⟨fun S' => ∃ e, S' = T e, P.rt, P.bk, P.ct⟩) (k : ∀ e, Run K B u (T e) P) : Run K B (tSeq t u) S P :=
  run_seq (h.imp (fun S' ⟨e, q⟩ => by subst q; exact k e) (fun _ _ z => z) (fun _ z => z) (fun _ z => z))
/-! equality of lists and tuples of tuples of ints -/
theorem eqvAll_tIs : ∀ xss yss : List (List Int), PyData.eqvAll (xss.map tI) (yss.map tI) = decide (xss = yss)
  | [], [] => by simp [PyData.eqvAll]
  | [], _ :: _ => by simp [PyData.eqvAll]
  | _ :: _, [] => by simp [PyData.eqvAll]
  | xs :: xss, ys :: yss => by
    rw [List.map_cons, List.map_cons, PyData.eqvAll, eqv_tI, eqvAll_tIs xss yss]
    by_cases h1 : xs = ys
    · by_cases h2 : xss = yss
      · simp [h1, h2]
      · simp [h1, h2]
    · simp [h1]
theorem eqv_lT (xss yss : List (List Int)) : PyData.eqv (.list (xss.map tI)) (.list (yss.map tI)) = decide (xss = yss) := eqvAll_tIs xss yss
theorem eqv_tT (xss yss : List (List Int)) : PyData.eqv (.tuple (xss.map tI)) (.tuple (yss.map tI)) = decide (xss = yss) := eqvAll_tIs xss yss
def fD (s : Int × List (List Int)) : D := .tuple [.int s.1, .tuple (s.2.map tI)]
theorem noLs_tIs (xss : List (List Int)) : noLs (xss.map tI) = true := noLs_map xss fun xs => noL_tI xs
theorem noL_fD (s : Int × List (List Int)) : noL (fD s) = true := by
  show noLs [.int s.1, .tuple (s.2.map tI)] = true
  simp only [noLs, noL, noLs_tIs]
  rfl
theorem eqv_fD (a b : Int × List (List Int)) : PyData.eqv (fD a) (fD b) = decide (a = b) := by
  obtain ⟨a1, a2⟩ := a
  obtain ⟨b1, b2⟩ := b
  show PyData.eqvAll [.int a1, .tuple (a2.map tI)] [.int b1, .tuple (b2.map tI)] = _
  rw [PyData.eqvAll, PyData.eqvAll, PyData.eqvAll, eqv_int, eqv_tT]
  by_cases h1 : a1 = b1
  · by_cases h2 : a2 = b2
    · simp [h1, h2]
    · simp [h1, h2]
  · simp [h1]
theorem shaped_fD (s : Int × List (List Int)) : SeqAt.shaped (fD s) = true := by
  unfold SeqAt.shaped fD
  have h1 : PyData.canLay0 (.tuple [.int s.1, .tuple (s.2.map tI)]) = true := by
    show PyData.canLayAll0 [.int s.1, .tuple (s.2.map tI)] = true
    rw [PyData.canLayAll0, PyData.canLayAll0]
    show (true && (PyData.canLayAll0 (s.2.map tI) && true)) = true
    rw [lay_tIs]
    rfl
  have h2 : PyData.depth (.tuple [.int s.1, .tuple (s.2.map tI)]) ≤ 64 := by
    unfold PyData.depth
    rw [PyData.depthAll, PyData.depthAll]
    have h3 : PyData.depth (.tuple (s.2.map tI)) ≤ 2 := by
      unfold PyData.depth
      have := depth_tIs s.2
      omega
    have h4 : PyData.depth (.int s.1) = 0 := rfl
    have h5 : PyData.depthAll [] = 0 := rfl
    omega
  rw [h1, decide_eq_true h2]
  rfl
section
variable {K : PySem.W.Frag}
theorem rv_eqLT {xss yss : List (List Int)} : RvR K (rEqD K) (.list (xss.map tI)) (.list (yss.map tI)) (.bool (decide (xss = yss))) := fun _ _ H r1 r2 Q q => ⟨_, _, (r1.dp rfl).l, (r2.dp rfl).l, shaped_tT xss, shaped_tT yss, by rw [eqv_lT]; exact q _ H (Ex.refl H) (.inl (.bl _))⟩
theorem rv_eqF {a b : Int × List (List Int)} : RvR K (rEqD K) (fD a) (fD b) (.bool (decide (a = b))) := fun _ _ H r1 r2 Q q => ⟨_, _, (r1.dp rfl).l, (r2.dp rfl).l, shaped_fD a, shaped_fD b, by rw [eqv_fD]; exact q _ H (Ex.refl H) (.inl (.bl _))⟩
theorem rv_neF {a b : Int × List (List Int)} : RvR K (rNeD K) (fD a) (fD b) (.bool (!decide (a = b))) := fun _ _ H r1 r2 Q q => ⟨_, _, (r1.dp rfl).l, (r2.dp rfl).l, shaped_fD a, shaped_fD b, by rw [eqv_fD]; exact q _ H (Ex.refl H) (.inl (.bl _))⟩
end
theorem cut_map {α : Type} (f : α → D) (xs : List α) (k : Nat) : cutD (xs.map f) (some (k : Int)) none = (xs.drop k).map f := by
  rw [cutD_from, List.map_drop]
end KW

set_option Elab.async false
set_option linter.all false
set_option maxRecDepth 100000
set_option maxHeartbeats 4000000
/-! functions that are handed a pool; draws inside of greater terms -/
namespace KW
open PySem PySem.Spec PyProof.Rows L2 Evl
def initP (n : Nat) (l c : Addr) (m : Nat) (ns : List Int) : SS := .pl l c m :: (ns.map fun k => .im (.int k)) ++ List.replicate (n - ns.length - 1) .no
theorem start_pool {K : PySem.W.Frag} {H : Hp} {N : List Str} {l c : Addr} {at' : Int} {ns : List Int} (h : PoolAt H l c at') (hN : ns.length + 1 ≤ N.length) : SB K (del H c) H (L2.start N (.ref l :: ns.map V.int)) (initP N.length l c at'.toNat ns) := by
  obtain ⟨r, ms, g1, g2, g3, n1, n2, g4, g5, g6, g7⟩ := h
  have sl : (L2.start N (.ref l :: ns.map V.int)) = some (.ref l) :: ((ns.map fun k => some (V.int k)) ++ List.replicate (N.length - ns.length - 1) none) := by
    simp only [L2.start, List.map_cons, List.map_map, List.length_cons, List.length_map, List.cons_append]
    congr 1
  have sa0 : SA K (del H c) H (L2.start N (.ref l :: ns.map V.int)) (.no :: ((ns.map fun k => Sl.im (.int k)) ++ List.replicate (N.length - ns.length - 1) .no)) (fun _ => []) :=
    { ex := del_ex
      len := by rw [sl]; simp
      own := fun i e q n => by
        rw [sl]
        cases i with
        | zero =>
          rw [List.getElem?_cons_zero] at q
          exact absurd (Option.some.inj q).symm n
        | succ i =>
          rw [List.getElem?_cons_succ] at q ⊢
          by_cases hi : i < ns.length
          · rw [List.getElem?_append_left (by simpa using hi), List.getElem?_map, List.getElem?_eq_getElem hi] at q ⊢
            cases q
            exact ⟨_, rfl, .inl (.int _), rfl⟩
          · rw [List.getElem?_append_right (by simpa using hi)] at q
            have := List.mem_of_getElem? q
            exact absurd (List.eq_of_mem_replicate this) n
      empty := fun _ _ => rfl
      sep := fun _ _ _ _ z => by cases z
      out := fun _ _ z => by cases z }
  have sa1 := sa0.put (i := 0) (v := .ref l) (e := .pl l c at'.toNat) (as := [c]) (by simp) ⟨r, ms, at', rfl, rfl, by rw [del_ne n1]; exact g1, by rw [del_ne n2]; exact g2, g3, g4, by omega, g5, g6, g7⟩
    (fun j a _ _ z => by cases z) (fun a ha => by rw [List.mem_singleton.mp ha]; exact del_same) (fun z => by cases z)
  have e1 : (L2.start N (.ref l :: ns.map V.int)).set 0 (some (.ref l)) = L2.start N (.ref l :: ns.map V.int) := by rw [sl]; rfl
  rw [e1] at sa1
  exact ⟨del H c, _, Ex.refl _, sa1⟩
section
variable {K : PySem.W.Frag} {S : SS} {B : Hp} {P : Post} {te ta tb : TE} {d d0 : D} {i : Nat} {l c : Addr} {m : Nat}
theorem run_retP (h : EvR K te (gm S) d) (hs : S[i]? = some (.pl l c m)) (k : ∀ v H' a2, Ex B H' → Rp K H' v d → H' c = some (.lst [.int a2]) → 0 ≤ a2 → a2 ≤ (m : Int) → P.rt v H') : Run K B (tRet te) S P := fun B' e D σ H sb nx rt bk ct =>
  h σ H sb.env _ fun v H1 e1 r1 => by
    have ex := sb.ex
    obtain ⟨Hm, A, eB, sa⟩ := sb
    obtain ⟨v0, hv, r, ns, at', rfl, hA, q1, q2, q3, q4, q5, _⟩ := sa.own i _ hs (by intro z; cases z)
    exact rt v H1 (k v H1 at' ((e.trans ex).trans e1) r1 (e1 _ _ q3) q4 q5)
/-- what evaluates to some data, the state turned as the data tell -/
def Xw (K : PySem.W.Frag) (te : TE) (S : SS) (R : D → SS → Prop) : Prop := ∀ B σ H, SB K B H σ S → ∀ Q : VK, (∀ d v B' H' S', Ex B B' → R d S' → noL d = true → Rp K B' v d → SB K B' H' σ S' → Q v H') → te σ H Q
theorem Xv.w {S' : SS} {R : D → Prop} (h : Xv K te S S' R) : Xw K te S (fun d S'' => R d ∧ S'' = S') := fun B σ H sb Q q => h B σ H sb Q fun d v B' H' e r n rp sb' => q d v B' H' S' e ⟨r, rfl⟩ n rp sb'
theorem Xw.imp {R R' : D → SS → Prop} (h : Xw K te S R) (i : ∀ d S', R d S' → R' d S') : Xw K te S R' := fun B σ H sb Q q => h B σ H sb Q fun d v B' H' S' e r => q d v B' H' S' e (i d S' r)
theorem SB.grown {H H' : Hp} {σ : L2.St} (sb : SB K B H σ S) (e : Ex H H') : ∃ B', Ex B B' ∧ SB K B' H' σ S ∧ ∀ v d, noL d = true → Rp K H' v d → Rp K B' v d := by
  obtain ⟨Hm, A, eB, sa⟩ := sb
  exact ⟨strip H' A, eB.trans (sa.strip_of e), ⟨_, A, Ex.refl _, sa.grow e⟩, fun v d n r => Rp.mapT (sa.sqT e) n r⟩
theorem xw_op {r : R2} {R R' : D → SS → Prop} (ha : EvR K ta (gm S) d0) (n0 : noL d0 = true) (hb : Xw K tb S R) (hr : ∀ e S', R e S' → ∃ f, RvR K r d0 e f ∧ noL f = true ∧ R' f S') : Xw K (tOp r ta tb) S R' := fun B σ H sb Q q =>
  ha σ H sb.env _ fun v H1 e1 r1 => by
    obtain ⟨B1, eb, sb1, mp⟩ := sb.grown e1
    have r1' := mp v d0 n0 r1
    refine hb B1 σ H1 sb1 _ fun d w B2 H2 S' e2 rd n rp sb2 => ?_
    obtain ⟨f, rv, nf, rf⟩ := hr d S' rd
    refine rv v w H2 ((r1'.mono e2).mono sb2.ex) (rp.mono sb2.ex) Q fun x H3 e3 r3 => ?_
    obtain ⟨B3, eb3, sb3, mp3⟩ := sb2.grown e3
    exact q f x B3 H3 S' ((eb.trans e2).trans eb3) rf nf (mp3 x f nf r3) sb3
theorem xw_tup1 {R : D → SS → Prop} (h : Xw K ta S R) (hd : ∀ d S', R d S' → isDict d = false) : Xw K (tTup (tCons ta tNil)) S (fun d S' => ∃ e, R e S' ∧ d = .tuple [e]) := fun B σ H sb Q q =>
  h B σ H sb _ fun d v B' H' S' e r n rp sb' => ⟨by show 1 ≤ sizeLine; decide, fun {its} p hp => by
    have e1 : Ex H' (upd H' p (XT its [v])) := Ex.new hp
    obtain ⟨B3, eb3, sb3, mp3⟩ := sb'.grown e1
    have rt : Rp K (upd H' p (XT its [v])) (.ref p) (.tuple [d]) := .inl (.tup (st_of upd_same) (.cons (((rp.mono sb'.ex).mono e1).dp (hd d S' r)) .nil))
    have nt : noL (.tuple [d]) = true := by simp [noL, noLs, n]
    exact q _ _ B3 _ S' (e.trans eb3) ⟨d, r, rfl⟩ nt (mp3 _ _ nt rt) sb3⟩
/-- an item of a new list of flat data, at a drawn place -/
theorem xw_ixF {R R' : D → SS → Prop} {ds : List D} (ha : EvF K ta (gm S) ds) (n0 : noLs ds = true) (hb : Xw K tb S R) (hr : ∀ e S', R e S' → ∃ (k : Nat) (f : D), e = .int k ∧ ds[k]? = some f ∧ R' f S') : Xw K (tOp (rIxX K) ta tb) S R' := fun B σ H sb Q q =>
  ha σ H sb.env _ fun p vs H1 np e1 hp hd => by
    obtain ⟨Hm, A, eB, sa⟩ := sb
    have hdm : DpAll K (strip H1 A) vs ds := DpAll.mapT (sa.sqT e1) ds vs n0 hd
    have hpm : strip H1 A p = some (.lst vs) := by rw [strip_out (fresh_own sa np)]; exact hp
    refine hb (strip H1 A) σ H1 ⟨_, A, Ex.refl _, sa.grow e1⟩ _ fun d w B2 H2 S' e2 rd n rp sb2 => ?_
    obtain ⟨k, f, rfl, hk, rf⟩ := hr d S' rd
    obtain ⟨x, h1, h2⟩ := DpAll.get hdm hk
    exact .inl ⟨p, vs, k, x, rfl, rp.int, SqL.of (sb2.ex _ _ (e2 _ _ hpm)), atI_nat h1, q f x B2 H2 S' ((eB.trans (sa.strip_of e1)).trans e2) rf (noLs_all.mp n0 f (List.mem_of_getElem? hk)) (.inl (Dp.mono e2 h2)) sb2⟩
theorem DpAll.erase {H : Hp} : ∀ {vs : List V} {ds : List D} (k : Nat), DpAll K H vs ds → DpAll K H (vs.eraseIdx k) (ds.eraseIdx k)
  | _, [], _, .nil => .nil
  | _, _ :: _, 0, .cons _ b => b
  | _, _ :: _, k + 1, .cons a b => .cons a (DpAll.erase k b)
theorem xw_pop {R : D → SS → Prop} {ds0 : List D} {il : Nat} (h0 : S[il]? = some (.ow ds0)) (h : Xw K ta S R) (hr : ∀ d S', R d S' → ∃ (k : Nat) (ds : List D), d = .int k ∧ S'[il]? = some (.ow ds) ∧ k < ds.length ∧ ds.length ≤ 100000 ∧ noLs ds = true) :
    Xw K (tBM K "list" rPopAt (tVar il) (tCons ta tNil)) S (fun e S'' => ∃ (k : Nat) (ds : List D) (S' : SS), R (.int k) S' ∧ S'[il]? = some (.ow ds) ∧ ds[k]? = some e ∧ S'' = S'.set il (.ow (ds.eraseIdx k))) := fun B σ H sb Q q => by
  have sbk := sb
  obtain ⟨Hm, A, eB, sa⟩ := sb
  obtain ⟨v, hv, l, vs, rfl, hA, hl, hd⟩ := sa.own il _ h0 (by intro z; cases z)
  refine ⟨_, hv, .inl ⟨rfl, _, SqL.of hl⟩, h B σ H sbk _ fun d w B2 H2 S' e2 rd n rp sb2 => ?_⟩
  obtain ⟨k, ds, rfl, hs, hk, hz, nd⟩ := hr d S' rd
  obtain ⟨Hm2, A2, eB2, sa2⟩ := sb2
  obtain ⟨v2, hv2, l2, vs2, rfl, hA2, hl2, hd2⟩ := sa2.own il _ hs (by intro z; cases z)
  have : l2 = l := by
    rw [hv] at hv2
    cases hv2
    rfl
  subst this
  have hl12 := DpAll.length hd2
  obtain ⟨x, hx1, hx2⟩ := DpAll.get hd2 (List.getElem?_eq_getElem hk)
  have hlA : l2 ∈ A2 il := by rw [hA2]; simp
  refine ⟨l2, vs2, k, k, x, rfl, by rw [rp.int], hl2, by omega, by omega, ?_, hx1, ?_⟩
  · unfold seqIndex?
    simp
    omega
  · have sa3 := sa2.write (e' := .ow (ds.eraseIdx k)) hlA hv2 (o := .lst (vs2.eraseIdx k)) ⟨l2, _, rfl, hA2, upd_same, DpAll.erase k hd2⟩ (by intro z; cases z)
    exact q ds[k] x Hm2 _ _ (e2.trans eB2) ⟨k, ds, S', rd, hs, List.getElem?_eq_getElem hk, rfl⟩ (noLs_all.mp nd _ (List.getElem_mem hk)) (.inl hx2) ⟨Hm2, A2, Ex.refl _, sa3⟩
theorem run_setW {R : D → SS → Prop} (h : Xw K te S R) (k : ∀ d S', R d S' → i < S'.length ∧ P.nx (S'.set i (.im d))) : Run K B (tAsg te (gName i)) S P := fun B' e D σ H sb nx rt bk ct =>
  h B' σ H sb _ fun d v B2 H1 S' eB r n rp sb1 => nx _ H1 _ ((sb1.putB (B := B) rp (k d S' r).1).mono eB) (k d S' r).2
end
section
variable {x qual : Str} {K : PySem.W.Frag} {st : Stmt} {f : Addr} {fd : FuncData} {N ps : List Str} {P : Program} {w : World} {mg : Str → Option Value} {base : Heap} {k cost : Nat} {p0 : Str}
theorem def_X (F : Fun K x qual st f fd) (S : FnScope N (p0 :: ps) (defScope st)) (ok : List D → Prop) (Fr : List D → D → Prop) (hok : ∀ ds, ok ds → ∃ ns : List Int, ds = ns.map .int ∧ ns.length = ps.length) (hN : ps.length + 1 ≤ N.length)
    (hb : ∀ (cdv : Value) (A : Around) (outer : List Env) (s : Shared) (H : Hp) (E : XK), Room k (A.deeper (envOfC qual (defScope st) s.heap.objs.size f cdv)) →
      ∃ t, PSs (cxOf CX0 P w K mg base N qual (defScope st) f cdv A outer s H E).nox (defBody st) t ∧ ∀ (l c : Addr) (m : Nat) (ns : List Int), m + cost ≤ 1000000 → ok (ns.map .int) → ∀ B, Run K B t (initP N.length l c m ns)
        { nx := fun _ => False, rt := fun v H' => ∃ d a2, Fr (ns.map .int) d ∧ noL d = true ∧ Rp K H' v d ∧ Ex B H' ∧ H' c = some (.lst [.int a2]) ∧ 0 ≤ a2 ∧ a2 ≤ (m : Int) + cost }) : FnOk P w K mg base CX0 (k + 1) f fd (p0 :: ps) (spX K ok Fr cost) := by
  refine F.ok S (fun vs H Q E h => ?_) (fun cdv A outer s H vs Q E hr h => ?_)
  · obtain ⟨l, c, at', ws, ds, rfl, _, _, r, q, _⟩ := h
    obtain ⟨ns, rfl, e⟩ := hok ds q
    have := Paired.length r
    simp only [List.length_cons, List.length_map] at this ⊢
    omega
  · obtain ⟨l, c, at', ws, ds, rfl, hp, hm, r, o, z⟩ := h
    obtain ⟨ns, rfl, e⟩ := hok ds o
    have ew : ws = ns.map V.int := by
      have : DpAll K H ws (ns.map .int) := RpAll.dp (by
        unfold noDs
        rw [List.all_map]
        exact List.all_eq_true.mpr fun _ _ => rfl) r
      exact DpAll.ints this
    subst ew
    obtain ⟨t, ht, hrun⟩ := hb cdv A outer s H E hr
    have h0 : 0 ≤ at' := by
      obtain ⟨_, _, _, _, _, _, _, g, _⟩ := hp
      exact g
    refine ⟨t, ht, hrun l c at'.toNat ns (by omega) o (del H c) (del H c) (Ex.refl _) _ _ H (start_pool hp (by omega)) (fun _ _ _ _ z => z.elim) (fun v H' y => ?_) (fun _ _ _ _ z => z.elim) (fun _ _ _ _ z => z.elim)⟩
    obtain ⟨d, a2, hF, n, rp, ex, hc, h1, h2⟩ := y
    exact z d v H' a2 hF n (rp.dp (noL_dict n)) (fun a o' na ha => ex a o' (by rw [del_ne na]; exact ha)) hc h1 (by omega)
end
end KW

set_option Elab.async false
set_option linter.all false
set_option maxRecDepth 100000
set_option maxHeartbeats 4000000
/-! orders and braids, in plain Lean -/
namespace BR
open KW
def IsP (n : Nat) (xs : List Int) : Prop := xs.length = n ∧ ∀ k : Int, 0 ≤ k → k < n → k ∈ xs
def idF (n : Nat) : List Int := rgI 0 n
theorem isP_id (n : Nat) : IsP n (idF n) := ⟨rgI_length .., fun k h0 h1 => mem_rgI.mpr (by omega)⟩
def swapI (ps : List Int) (j : Nat) : List Int := (ps.set j (ps.getD (j + 1) 0)).set (j + 1) (ps.getD j 0)
theorem swap_length (ps : List Int) (j : Nat) : (swapI ps j).length = ps.length := by simp [swapI]
theorem isP_swap {n : Nat} {ps : List Int} {j : Nat} (h : IsP n ps) (hj : j + 1 < n) : IsP n (swapI ps j) := by
  refine ⟨by rw [swap_length]; exact h.1, fun k h0 h1 => ?_⟩
  obtain ⟨i, hi, e⟩ := List.mem_iff_getElem.mp (h.2 k h0 h1)
  have hl := h.1
  rw [List.mem_iff_getElem?]
  by_cases c1 : i = j
  · subst c1
    refine ⟨i + 1, ?_⟩
    unfold swapI
    rw [List.getElem?_set_self (by simp; omega), List.getD_eq_getElem?_getD, List.getElem?_eq_getElem hi, e]
    rfl
  · by_cases c2 : i = j + 1
    · subst c2
      refine ⟨j, ?_⟩
      unfold swapI
      rw [List.getElem?_set_ne (by omega), List.getElem?_set_self (by omega), List.getD_eq_getElem?_getD, List.getElem?_eq_getElem hi, e]
      rfl
    · refine ⟨i, ?_⟩
      unfold swapI
      rw [List.getElem?_set_ne (by omega), List.getElem?_set_ne (by omega), List.getElem?_eq_getElem hi, e]
theorem idx_get {xs : List Int} {k : Int} (h : k ∈ xs) : xs[xs.idxOf k]? = some k := by
  have hl := List.idxOf_lt_length_of_mem h
  rw [List.getElem?_eq_getElem hl, List.getElem_idxOf hl]
theorem idx_ne {xs : List Int} {k : Int} (h : k ∈ xs) : ∀ m, m < xs.idxOf k → xs[m]? ≠ some k := by
  intro m hm e
  have hl := List.idxOf_lt_length_of_mem h
  have hm' : m < xs.length := by omega
  rw [List.getElem?_eq_getElem hm'] at e
  have := List.not_of_lt_findIdx (p := (· == k)) (xs := xs) (show m < xs.findIdx (· == k) from hm)
  simp at this
  exact this (Option.some.inj e)
def idxI (xs : List Int) (k : Int) : Int := (xs.idxOf k : Int)
def placesF (n : Int) (w : List Int) : List Int := w.foldl (fun ps x => swapI ps ((if x < 0 then -x else x) - 1).toNat) (idF n.toNat)
def orderF (n : Int) (w : List Int) : List Int := (rgI 0 n.toNat).map (idxI (placesF n w))
def okW (n : Int) (w : List Int) : Prop := ∀ x ∈ w, 1 ≤ (if x < 0 then -x else x) ∧ (if x < 0 then -x else x) ≤ n - 1
def halfF (n : Int) : List Int := (dnI (n - 1) (n - 1 - 0).toNat).flatMap fun j => rgI 1 (j + 1 - 1).toNat
def fallsF (xs : List Int) : List Int := (rgI 0 ((xs.length : Int) - 1).toNat).filter fun k => decide (xs.getD (k + 1).toNat 0 < xs.getD k.toNat 0)
def begF (xs : List Int) : List Int := (fallsF xs).map (· + 1)
def placF (xs : List Int) : List Int := (rgI 0 xs.length).map (idxI xs)
def endF (xs : List Int) : List Int := ((rgI 0 ((xs.length : Int) - 1).toNat).filter fun k => decide ((placF xs).getD (k + 1).toNat 0 < (placF xs).getD k.toNat 0)).map (· + 1)
def wfF (xs : List Int) (k : Int) : List Int := swapI xs (k - 1).toNat
def wlF (xs : List Int) (k : Int) : List Int := xs.map fun x => if x = k - 1 then k else if x = k then k - 1 else x
def flF (xs : List Int) : List Int := (rgI 0 xs.length).map fun k => (xs.length : Int) - 1 - xs.getD ((xs.length : Int) - 1 - k).toNat 0
theorem isP_wf {n : Nat} {xs : List Int} {k : Int} (h : IsP n xs) (h1 : 1 ≤ k) (h2 : k < n) : IsP n (wfF xs k) := isP_swap h (by omega)
theorem isP_wl {n : Nat} {xs : List Int} {k : Int} (h : IsP n xs) (h1 : 1 ≤ k) (h2 : k < n) : IsP n (wlF xs k) := by
  refine ⟨by rw [wlF, List.length_map]; exact h.1, fun t h3 h4 => ?_⟩
  rw [wlF, List.mem_map]
  by_cases c1 : t = k
  · exact ⟨k - 1, h.2 _ (by omega) (by omega), by rw [if_pos rfl]; exact c1.symm⟩
  · by_cases c2 : t = k - 1
    · exact ⟨k, h.2 _ (by omega) (by omega), by rw [if_neg (by omega), if_pos rfl]; exact c2.symm⟩
    · exact ⟨t, h.2 _ h3 h4, by rw [if_neg c2, if_neg c1]⟩
theorem isP_fl {n : Nat} {xs : List Int} (h : IsP n xs) : IsP n (flF xs) := by
  have hl := h.1
  refine ⟨by rw [flF, List.length_map, rgI_length, hl], fun t h3 h4 => ?_⟩
  obtain ⟨i, hi, e⟩ := List.mem_iff_getElem.mp (h.2 ((n : Int) - 1 - t) (by omega) (by omega))
  rw [flF, List.mem_map]
  refine ⟨(n : Int) - 1 - i, mem_rgI.mpr (by omega), ?_⟩
  rw [hl, show ((n : Int) - 1 - ((n : Int) - 1 - i)).toNat = i by omega, List.getD_eq_getElem?_getD, List.getElem?_eq_getElem hi, e]
  show (n : Int) - 1 - ((n : Int) - 1 - t) = t
  omega
theorem isP_places {n : Int} (w : List Int) (h : okW n w) : ∀ ps, IsP n.toNat ps → IsP n.toNat (w.foldl (fun ps x => swapI ps ((if x < 0 then -x else x) - 1).toNat) ps) := by
  induction w with
  | nil => intro ps h; exact h
  | cons x w ih =>
    intro ps hp
    refine ih (fun y hy => h y (by simp [hy])) _ (isP_swap hp ?_)
    have := h x (by simp)
    omega
theorem mem_beg {xs : List Int} {k : Int} (h : k ∈ begF xs) : 1 ≤ k ∧ k < xs.length := by
  obtain ⟨j, hj, rfl⟩ := List.mem_map.mp h
  have := mem_rgI.mp (List.mem_filter.mp hj).1
  show 1 ≤ j + 1 ∧ j + 1 < _
  omega
/-! settled, pressed, plain -/
def stR : Nat → List Int → List Int → Option (List Int × List Int)
  | 0, _, _ => none
  | f + 1, one, two => match (begF two).filter fun k => !decide (k ∈ endF one) with
    | [] => some (one, two)
    | k :: _ => stR f (wlF one k) (wfF two k)
theorem isP_st {n : Nat} : ∀ (f : Nat) {one two : List Int} {r : List Int × List Int}, IsP n one → IsP n two → stR f one two = some r → IsP n r.1 ∧ IsP n r.2
  | 0, _, _, _, _, _, h => by cases h
  | f + 1, one, two, r, h1, h2, h => by
    unfold stR at h
    split at h
    · cases h; exact ⟨h1, h2⟩
    · rename_i k t e
      have hk : k ∈ begF two := (List.mem_filter.mp (e ▸ List.mem_cons_self : k ∈ (begF two).filter fun k => !decide (k ∈ endF one))).1
      have := mem_beg hk
      rw [h2.1] at this
      exact isP_st f (isP_wl h1 this.1 this.2) (isP_wf h2 this.1 this.2) h
def passG : List Int → List (List Int) → Option (List (List Int))
  | a, [] => some [a]
  | a, b :: t => match stR 64 a b with
    | none => none
    | some r => match passG r.2 t with
      | none => none
      | some rs => some (r.1 :: rs)
def passR : List (List Int) → Option (List (List Int))
  | [] => some []
  | a :: t => passG a t
theorem pass_step {a b : List Int} {t r : List (List Int)} (e : passR (a :: b :: t) = some r) : ∃ p rs, stR 64 a b = some p ∧ passR (p.2 :: t) = some rs ∧ r = p.1 :: rs := by
  show ∃ p rs, stR 64 a b = some p ∧ passG p.2 t = some rs ∧ r = p.1 :: rs
  have e : passG a (b :: t) = some r := e
  unfold passG at e
  split at e
  · cases e
  · rename_i p hp
    split at e
    · cases e
    · rename_i rs hrs
      cases e
      exact ⟨p, rs, hp, hrs, rfl⟩
theorem pass_end {l r : List (List Int)} (h : l.length ≤ 1) (e : passR l = some r) : r = l := by
  match l, h with
  | [], _ => cases e; rfl
  | [a], _ => cases e; rfl
theorem isP_passG {n : Nat} : ∀ (t : List (List Int)) (a : List Int) {r : List (List Int)}, IsP n a → (∀ x ∈ t, IsP n x) → passR (a :: t) = some r → ∀ x ∈ r, IsP n x
  | [], a, _, ha, _, e => by
    cases e
    intro x hx
    rw [List.mem_singleton.mp hx]
    exact ha
  | b :: t, a, r, ha, h, e => by
    obtain ⟨p, rs, h1, h2, rfl⟩ := pass_step e
    have q := isP_st 64 ha (h b (by simp)) h1
    have := isP_passG t p.2 q.2 (fun x hx => h x (by simp [hx])) h2
    intro x hx
    rcases List.mem_cons.mp hx with rfl | hx
    · exact q.1
    · exact this x hx
theorem isP_pass {n : Nat} (l : List (List Int)) {r : List (List Int)} (h : ∀ x ∈ l, IsP n x) (e : passR l = some r) : ∀ x ∈ r, IsP n x := by
  match l, h, e with
  | [], _, e => cases e; intro x hx; cases hx
  | a :: t, h, e => exact isP_passG t a (h a (by simp)) (fun x hx => h x (by simp [hx])) e
theorem passG_length : ∀ (t : List (List Int)) (a : List Int) {r : List (List Int)}, passR (a :: t) = some r → r.length = t.length + 1
  | [], a, _, e => by cases e; rfl
  | b :: t, a, r, e => by
    obtain ⟨p, rs, h1, h2, rfl⟩ := pass_step e
    have := passG_length t p.2 h2
    simp only [List.length_cons, this]
theorem pass_length (l : List (List Int)) {r : List (List Int)} (e : passR l = some r) : r.length = l.length := by
  match l, e with
  | [], e => cases e; rfl
  | a :: t, e => exact passG_length t a e
def noId (rs : List (List Int)) : List (List Int) := rs.filter fun r => !decide (r = idF r.length)
def prR : Nat → List (List Int) → Option (List (List Int))
  | 0, _ => none
  | f + 1, rows => match passR rows with
    | none => none
    | some rs => if noId rs = rows then some (noId rs) else prR f (noId rs)
theorem isP_noId {n : Nat} {rs : List (List Int)} (h : ∀ x ∈ rs, IsP n x) : ∀ x ∈ noId rs, IsP n x := fun x hx => h x (List.mem_filter.mp hx).1
theorem isP_pr {n : Nat} : ∀ (f : Nat) {l r : List (List Int)}, (∀ x ∈ l, IsP n x) → prR f l = some r → ∀ x ∈ r, IsP n x
  | 0, _, _, _, e => by cases e
  | f + 1, l, r, h, e => by
    unfold prR at e
    split at e
    · cases e
    · rename_i rs hrs
      have q := isP_noId (isP_pass l h hrs)
      split at e
      · cases e; exact q
      · exact isP_pr f q e
def stripF (full : List Int) : Int → List (List Int) → Int × List (List Int)
  | c, [] => (c, [])
  | c, r :: t => if r = full then stripF full (c + 1) t else (c, r :: t)
def fullF (n : Int) : List Int := (idF n.toNat).reverse
def addR (n : Int) (rows : List (List Int)) (x : Int) : List (List Int) := if 0 < x then rows ++ [wlF (idF n.toNat) x] else rows.map flF ++ [wlF (fullF n) (-x)]
def pstep (n : Int) (s : Int × List (List Int)) (x : Int) : Option (Int × List (List Int)) := match prR 10000 (addR n s.2 x) with
  | none => none
  | some rs => some (stripF (fullF n) (if 0 < x then s.1 else s.1 - 1) rs)
def plFrom (n : Int) : Int × List (List Int) → List Int → Option (Int × List (List Int))
  | s, [] => some s
  | s, x :: w => match pstep n s x with
    | none => none
    | some s' => plFrom n s' w
def plR (n : Int) (w : List Int) : Option (Int × List (List Int)) := plFrom n (0, []) w
theorem isP_full (n : Int) : IsP n.toNat (fullF n) := ⟨by rw [fullF, List.length_reverse]; exact (isP_id _).1, fun k h0 h1 => List.mem_reverse.mpr ((isP_id _).2 k h0 h1)⟩
theorem isP_strip {n : Nat} {full : List Int} : ∀ (rows : List (List Int)) (c : Int), (∀ x ∈ rows, IsP n x) → ∀ x ∈ (stripF full c rows).2, IsP n x
  | [], _, h => h
  | r :: t, c, h => by
    unfold stripF
    split
    · exact isP_strip t (c + 1) fun x hx => h x (by simp [hx])
    · exact h
theorem isP_add {n : Int} {rows : List (List Int)} {x : Int} (h : ∀ r ∈ rows, IsP n.toNat r) (h1 : 1 ≤ (if x < 0 then -x else x)) (h2 : (if x < 0 then -x else x) ≤ n - 1) : ∀ r ∈ addR n rows x, IsP n.toNat r := by
  intro r hr
  unfold addR at hr
  split at hr
  · rename_i hx
    rw [if_neg (by omega)] at h2
    rcases List.mem_append.mp hr with hr | hr
    · exact h r hr
    · rw [List.mem_singleton.mp hr]
      exact isP_wl (isP_id _) (by omega) (by omega)
  · rename_i hx
    have : x < 0 := by
      split at h1
      · assumption
      · omega
    rw [if_pos this] at h2
    rcases List.mem_append.mp hr with hr | hr
    · obtain ⟨s, hs, rfl⟩ := List.mem_map.mp hr
      exact isP_fl (h s hs)
    · rw [List.mem_singleton.mp hr]
      exact isP_wl (isP_full n) (by omega) (by omega)
theorem isP_pstep {n : Int} {s s' : Int × List (List Int)} {x : Int} (h : ∀ r ∈ s.2, IsP n.toNat r) (h1 : 1 ≤ (if x < 0 then -x else x)) (h2 : (if x < 0 then -x else x) ≤ n - 1) (e : pstep n s x = some s') : ∀ r ∈ s'.2, IsP n.toNat r := by
  unfold pstep at e
  split at e
  · cases e
  · rename_i rs hrs
    cases e
    exact isP_strip _ _ (isP_pr 10000 (isP_add h h1 h2) hrs)
theorem pr_length : ∀ (f : Nat) {l r : List (List Int)}, prR f l = some r → r.length ≤ l.length
  | 0, _, _, e => by cases e
  | f + 1, l, r, e => by
    unfold prR at e
    split at e
    · cases e
    · rename_i rs hrs
      have h1 := pass_length l hrs
      have h2 : (noId rs).length ≤ rs.length := List.length_filter_le _ _
      split at e
      · cases e; omega
      · have := pr_length f e; omega
theorem strip_length {full : List Int} : ∀ (rows : List (List Int)) (c : Int), (stripF full c rows).2.length ≤ rows.length
  | [], _ => Nat.le_refl _
  | r :: t, c => by
    unfold stripF
    split
    · have := strip_length (full := full) t (c + 1); simp only [List.length_cons]; omega
    · exact Nat.le_refl _
theorem add_length (n : Int) (rows : List (List Int)) (x : Int) : (addR n rows x).length = rows.length + 1 := by
  unfold addR
  split <;> simp
theorem pstep_length {n : Int} {s s' : Int × List (List Int)} {x : Int} (e : pstep n s x = some s') : s'.2.length ≤ s.2.length + 1 := by
  unfold pstep at e
  split at e
  · cases e
  · rename_i rs hrs
    cases e
    have h1 := pr_length 10000 hrs
    have h2 := strip_length (full := fullF n) rs (if 0 < x then s.1 else s.1 - 1)
    rw [add_length] at h1
    omega
end BR

set_option Elab.async false
set_option linter.all false
set_option maxRecDepth 100000
set_option maxHeartbeats 4000000
namespace BR
open KW
/-! words for orders -/
def sfR : Nat → List Int → Option (List Int)
  | 0, _ => none
  | f + 1, row => match fallsF row with
    | [] => some []
    | k :: _ => match sfR f (swapI row k.toNat) with
      | none => none
      | some w => some ((k + 1) :: w)
def sfW (row : List Int) : List Int := (sfR 64 row).getD []
def invF (xs : List Int) : Int := (((rgI 0 xs.length).flatMap fun j => ((rgI 0 j.toNat).filter fun k => decide (xs.getD j.toNat 0 < xs.getD k.toNat 0)).map fun _ => (1 : Int)).length : Int)
def ofW (n : Int) (s : Int × List (List Int)) : List Int := (if s.1 = 0 then [] else halfF n) ++ s.2.flatMap sfW
def lenF (n : Int) (s : Int × List (List Int)) : Int := (if s.1 < 0 then -s.1 else s.1) * ((halfF n).length : Int) + (s.2.map invF).sum
theorem mem_falls {xs : List Int} {k : Int} (h : k ∈ fallsF xs) : 0 ≤ k ∧ k + 1 < xs.length := by
  have := mem_rgI.mp (List.mem_filter.mp h).1
  omega
theorem sf_length : ∀ (f : Nat) {row w : List Int}, sfR f row = some w → w.length < f
  | 0, _, _, e => by cases e
  | f + 1, row, w, e => by
    unfold sfR at e
    split at e
    · cases e; exact Nat.zero_lt_succ _
    · rename_i k t h
      split at e
      · cases e
      · rename_i w' hw
        cases e
        have := sf_length f hw
        simp only [List.length_cons]
        omega
theorem erase_map {α β : Type} (f : α → β) : ∀ (l : List α) (j : Nat), (l.map f).eraseIdx j = (l.eraseIdx j).map f
  | [], _ => rfl
  | _ :: _, 0 => rfl
  | a :: l, j + 1 => by
    show f a :: (l.map f).eraseIdx j = f a :: (l.eraseIdx j).map f
    rw [erase_map f l j]
theorem erase_perm {α : Type} : ∀ (l : List α) (j : Nat) (x : α), l[j]? = some x → (x :: l.eraseIdx j).Perm l
  | [], _, _, h => by simp at h
  | a :: l, 0, x, h => by
    have h : a = x := by simpa using h
    subst h
    exact List.Perm.refl _
  | a :: l, j + 1, x, h => by
    have ih := erase_perm l j x (by simpa using h)
    show (x :: a :: l.eraseIdx j).Perm (a :: l)
    exact (List.Perm.swap a x _).trans (ih.cons a)
theorem nodup_id (n : Nat) : (idF n).Nodup := by
  unfold idF rgI
  exact List.pairwise_map.mpr (List.nodup_range.imp fun {a b} h z => h (by omega))
end BR

set_option Elab.async false
set_option linter.all false
set_option maxRecDepth 1000000
set_option maxHeartbeats 4000000
/-! pressing comes to an end: a table of all orders of 2 to 5 numbers, and a sum that goes down -/
namespace BR
open KW
def permsP : Nat → List Int → List (List Int)
  | 0, _ => [[]]
  | k + 1, l => l.flatMap fun x => (permsP k (l.erase x)).map (x :: ·)
theorem mem_permsP : ∀ (xs l : List Int), xs.Perm l → xs ∈ permsP l.length l
  | [], l, h => by
    have := h.length_eq
    have : l = [] := List.length_eq_zero_iff.mp (by simpa using this.symm)
    subst this
    exact List.mem_singleton.mpr rfl
  | x :: t, l, h => by
    have hx : x ∈ l := h.mem_iff.mp (by simp)
    have hl := h.length_eq
    have ht : t.Perm (l.erase x) := (List.cons_perm_iff_perm_erase.mp h).2
    have ih := mem_permsP t (l.erase x) ht
    have e : l.length = (l.erase x).length + 1 := by
      rw [← ht.length_eq, ← hl]
      rfl
    rw [e]
    exact List.mem_flatMap.mpr ⟨x, hx, List.mem_map.mpr ⟨t, ih, rfl⟩⟩
theorem perm_of_sub : ∀ (l xs : List Int), l.Nodup → (∀ x ∈ l, x ∈ xs) → xs.length = l.length → xs.Perm l
  | [], xs, _, _, h => by
    have : xs = [] := List.length_eq_zero_iff.mp h
    subst this
    exact List.Perm.refl _
  | a :: l, xs, nd, hs, h => by
    rw [List.nodup_cons] at nd
    have ha := hs a (by simp)
    have p1 := List.perm_cons_erase ha
    refine p1.trans ((perm_of_sub l (xs.erase a) nd.2 (fun x hx => ?_) ?_).cons a)
    · exact (List.mem_erase_of_ne (fun z => by subst z; exact nd.1 hx)).mpr (hs x (by simp [hx]))
    · have := p1.length_eq
      simp only [List.length_cons] at this h
      omega
theorem perm_isP {n : Nat} {xs : List Int} (h : IsP n xs) : xs.Perm (idF n) := perm_of_sub _ _ (nodup_id n) (fun x hx => by
  have := mem_rgI.mp hx
  exact h.2 x (by omega) (by omega)) (by rw [h.1]; exact (isP_id n).1.symm)
theorem isP_perm {n : Nat} {xs : List Int} (h : xs.Perm (idF n)) : IsP n xs := ⟨by rw [h.length_eq]; exact (isP_id n).1, fun k h0 h1 => h.mem_iff.mpr ((isP_id n).2 k h0 h1)⟩
theorem isP_mem {n : Nat} {xs : List Int} (h : IsP n xs) : xs ∈ permsP n (idF n) := by
  have := mem_permsP xs (idF n) (perm_isP h)
  rwa [(isP_id n).1] at this
def chkT (n : Nat) (xs : List Int) : Bool :=
  decide (0 ≤ invF xs) && decide (invF xs ≤ 10) && (rgI 1 (n - 1)).all fun k => (!(begF xs).contains k || decide (invF (wfF xs k) + 1 = invF xs)) && ((endF xs).contains k || decide (invF (wlF xs k) = invF xs + 1))
set_option maxHeartbeats 0 in
theorem tab2 : (permsP 2 (idF 2)).all (chkT 2) = true := by decide +kernel
set_option maxHeartbeats 0 in
theorem tab3 : (permsP 3 (idF 3)).all (chkT 3) = true := by decide +kernel
set_option maxHeartbeats 0 in
theorem tab4 : (permsP 4 (idF 4)).all (chkT 4) = true := by decide +kernel
set_option maxHeartbeats 0 in
theorem tab5 : (permsP 5 (idF 5)).all (chkT 5) = true := by decide +kernel
theorem tab {n : Nat} (hn : 2 ≤ n ∧ n ≤ 5) {xs : List Int} (h : IsP n xs) : chkT n xs = true := by
  have hm := isP_mem h
  have : n = 2 ∨ n = 3 ∨ n = 4 ∨ n = 5 := by omega
  rcases this with rfl | rfl | rfl | rfl
  · exact List.all_eq_true.mp tab2 xs hm
  · exact List.all_eq_true.mp tab3 xs hm
  · exact List.all_eq_true.mp tab4 xs hm
  · exact List.all_eq_true.mp tab5 xs hm
theorem tab_inv {n : Nat} (hn : 2 ≤ n ∧ n ≤ 5) {xs : List Int} (h : IsP n xs) : 0 ≤ invF xs ∧ invF xs ≤ 10 := by
  have := tab hn h
  simp only [chkT, Bool.and_eq_true, decide_eq_true_eq] at this
  exact this.1
theorem tab_k {n : Nat} (hn : 2 ≤ n ∧ n ≤ 5) {xs : List Int} (h : IsP n xs) {k : Int} (h1 : 1 ≤ k) (h2 : k < n) : (k ∈ begF xs → invF (wfF xs k) + 1 = invF xs) ∧ (k ∉ endF xs → invF (wlF xs k) = invF xs + 1) := by
  have := tab hn h
  simp only [chkT, Bool.and_eq_true, decide_eq_true_eq] at this
  have := List.all_eq_true.mp this.2 k (mem_rgI.mpr (by omega))
  simp only [Bool.and_eq_true, Bool.or_eq_true, decide_eq_true_eq, Bool.not_eq_true', List.contains_iff_mem] at this
  refine ⟨fun hk => ?_, fun hk => ?_⟩
  · rcases this.1 with h | h
    · rw [List.contains_eq_mem, decide_eq_false_iff_not] at h
      exact absurd hk h
    · exact h
  · rcases this.2 with h | h
    · exact absurd h hk
    · exact h
theorem stT {n : Nat} (hn : 2 ≤ n ∧ n ≤ 5) : ∀ (f : Nat) (one two : List Int), IsP n one → IsP n two → invF two < f → ∃ r, stR f one two = some r ∧ invF r.1 + invF r.2 = invF one + invF two ∧ invF one ≤ invF r.1 ∧ (invF r.1 = invF one → r = (one, two))
  | 0, one, two, h1, h2, h => by have := (tab_inv hn h2).1; omega
  | f + 1, one, two, h1, h2, h => by
    unfold stR
    split
    · exact ⟨_, rfl, rfl, Int.le_refl _, fun _ => rfl⟩
    · rename_i k t e
      have hk : k ∈ (begF two).filter fun k => !decide (k ∈ endF one) := e ▸ List.mem_cons_self
      have hkb := (List.mem_filter.mp hk).1
      have hke : k ∉ endF one := by simpa using (List.mem_filter.mp hk).2
      have hr := mem_beg hkb
      rw [h2.1] at hr
      have t1 := (tab_k hn h2 hr.1 hr.2).1 hkb
      have t2 := (tab_k hn h1 hr.1 hr.2).2 hke
      obtain ⟨r, e1, e2, e3, e4⟩ := stT hn f (wlF one k) (wfF two k) (isP_wl h1 hr.1 hr.2) (isP_wf h2 hr.1 hr.2) (by omega)
      exact ⟨r, e1, by omega, by omega, fun z => by omega⟩
theorem st64 {n : Nat} (hn : 2 ≤ n ∧ n ≤ 5) {one two : List Int} (h1 : IsP n one) (h2 : IsP n two) : ∃ r, stR 64 one two = some r ∧ invF r.1 + invF r.2 = invF one + invF two ∧ invF one ≤ invF r.1 ∧ (invF r.1 = invF one → r = (one, two)) :=
  stT hn 64 one two h1 h2 (by have := (tab_inv hn h2).2; omega)
def pot : Int → List (List Int) → Int
  | _, [] => 0
  | i, a :: t => i * invF a + pot (i + 1) t
theorem passT {n : Nat} (hn : 2 ≤ n ∧ n ≤ 5) : ∀ (t : List (List Int)) (a : List Int) (i : Int), IsP n a → (∀ x ∈ t, IsP n x) → ∃ rs, passR (a :: t) = some rs ∧ pot i rs ≤ pot i (a :: t) ∧ (pot i rs = pot i (a :: t) → rs = a :: t)
  | [], a, i, _, _ => ⟨[a], rfl, Int.le_refl _, fun _ => rfl⟩
  | b :: t, a, i, ha, h => by
    have hb := h b (by simp)
    obtain ⟨p, e1, e2, e3, e4⟩ := st64 hn ha hb
    have q := isP_st 64 ha hb e1
    obtain ⟨rs, f1, f2, f3⟩ := passT hn t p.2 (i + 1) q.2 (fun x hx => h x (by simp [hx]))
    refine ⟨p.1 :: rs, ?_, ?_, ?_⟩
    · show passG a (b :: t) = _
      unfold passG
      rw [e1]
      have f1 : passG p.2 t = some rs := f1
      dsimp only
      rw [f1]
    · show i * invF p.1 + pot (i + 1) rs ≤ i * invF a + ((i + 1) * invF b + pot (i + 1 + 1) t)
      have f2 : pot (i + 1) rs ≤ (i + 1) * invF p.2 + pot (i + 1 + 1) t := f2
      obtain ⟨dd, hd⟩ : ∃ dd, invF p.1 = invF a + dd := ⟨invF p.1 - invF a, by omega⟩
      have hd2 : invF p.2 = invF b - dd := by omega
      rw [hd, Int.mul_add]
      rw [hd2, Int.mul_sub, Int.add_mul i 1 dd] at f2
      omega
    · intro z
      have z : i * invF p.1 + pot (i + 1) rs = i * invF a + ((i + 1) * invF b + pot (i + 1 + 1) t) := z
      have f2 : pot (i + 1) rs ≤ (i + 1) * invF p.2 + pot (i + 1 + 1) t := f2
      have f3 : pot (i + 1) rs = (i + 1) * invF p.2 + pot (i + 1 + 1) t → rs = p.2 :: t := f3
      obtain ⟨dd, hd⟩ : ∃ dd, invF p.1 = invF a + dd := ⟨invF p.1 - invF a, by omega⟩
      have hd2 : invF p.2 = invF b - dd := by omega
      rw [hd, Int.mul_add] at z
      rw [hd2, Int.mul_sub, Int.add_mul i 1 dd] at f2 f3
      have d0 : dd = 0 := by omega
      subst d0
      have hp := e4 (by omega)
      rw [f3 (by omega), hp]
theorem pot_up {n : Nat} (hn : 2 ≤ n ∧ n ≤ 5) : ∀ (l : List (List Int)) (i : Int), (∀ x ∈ l, IsP n x) → pot i l ≤ pot (i + 1) l
  | [], _, _ => Int.le_refl _
  | a :: t, i, h => by
    have h1 := (tab_inv hn (h a (by simp))).1
    have h2 := pot_up hn t (i + 1) (fun x hx => h x (by simp [hx]))
    show i * invF a + pot (i + 1) t ≤ (i + 1) * invF a + pot (i + 1 + 1) t
    rw [Int.add_mul]
    omega
theorem pot_noId {n : Nat} (hn : 2 ≤ n ∧ n ≤ 5) : ∀ (l : List (List Int)) (i : Int), 0 ≤ i → (∀ x ∈ l, IsP n x) → pot i (noId l) ≤ pot i l ∧ (noId l).length ≤ l.length ∧ ((noId l).length = l.length → noId l = l)
  | [], _, _, _ => ⟨Int.le_refl _, Nat.le_refl _, fun _ => rfl⟩
  | a :: t, i, h0, h => by
    have ht : ∀ x ∈ t, IsP n x := fun x hx => h x (by simp [hx])
    obtain ⟨h1, h2, h3⟩ := pot_noId hn t (i + 1) (by omega) ht
    have ha := (tab_inv hn (h a (by simp))).1
    have hia : 0 ≤ i * invF a := Int.mul_nonneg h0 ha
    unfold noId at h1 h2 h3 ⊢
    rw [List.filter_cons]
    split
    · refine ⟨?_, by simpa using h2, fun z => by rw [h3 (by simpa using z)]⟩
      show i * invF a + pot (i + 1) _ ≤ i * invF a + pot (i + 1) t
      omega
    · have hu := pot_up hn (t.filter fun r => !decide (r = idF r.length)) i (fun x hx => ht x (List.mem_filter.mp hx).1)
      refine ⟨?_, by simp only [List.length_cons]; omega, fun z => by simp only [List.length_cons] at z; omega⟩
      show pot i _ ≤ i * invF a + pot (i + 1) t
      omega
theorem prT {n : Nat} (hn : 2 ≤ n ∧ n ≤ 5) : ∀ (f : Nat) (l : List (List Int)), (∀ x ∈ l, IsP n x) → pot 0 l + l.length < f → 0 ≤ pot 0 l → ∃ r, prR f l = some r
  | 0, l, _, h, h0 => by omega
  | f + 1, l, hl, h, h0 => by
    have key : ∃ rs, passR l = some rs ∧ pot 0 rs ≤ pot 0 l ∧ (pot 0 rs = pot 0 l → rs = l) := by
      match l, hl with
      | [], _ => exact ⟨[], rfl, Int.le_refl _, fun _ => rfl⟩
      | a :: t, hl => exact passT hn t a 0 (hl a (by simp)) (fun x hx => hl x (by simp [hx]))
    obtain ⟨rs, e1, e2, e3⟩ := key
    have hrs := isP_pass l hl e1
    have hlen := pass_length l e1
    obtain ⟨n1, n2, n3⟩ := pot_noId hn rs 0 (Int.le_refl _) hrs
    unfold prR
    rw [e1]
    dsimp only
    split
    · exact ⟨_, rfl⟩
    · rename_i ne
      have pos : 0 ≤ pot 0 (noId rs) := by
        have : ∀ (l : List (List Int)) (i : Int), 0 ≤ i → (∀ x ∈ l, IsP n x) → 0 ≤ pot i l := by
          intro l
          induction l with
          | nil => intro i _ _; exact Int.le_refl _
          | cons a t ih =>
            intro i hi hl
            have h1 := ih (i + 1) (by omega) (fun x hx => hl x (by simp [hx]))
            have h2 := Int.mul_nonneg hi (tab_inv hn (hl a (by simp))).1
            show 0 ≤ i * invF a + pot (i + 1) t
            omega
        exact this _ 0 (Int.le_refl _) (isP_noId hrs)
      refine prT hn f (noId rs) (isP_noId hrs) ?_ pos
      by_cases c : pot 0 rs = pot 0 l
      · have e := e3 c
        subst e
        have : (noId rs).length ≠ rs.length := fun z => ne (n3 z)
        omega
      · omega
theorem pot_le {n : Nat} (hn : 2 ≤ n ∧ n ≤ 5) : ∀ (l : List (List Int)) (i : Nat), (∀ x ∈ l, IsP n x) → 0 ≤ pot i l ∧ pot i l ≤ 10 * ((i + l.length : Nat) : Int) * (l.length : Int)
  | [], i, _ => ⟨Int.le_refl _, by show (0 : Int) ≤ _; simp⟩
  | a :: t, i, h => by
    obtain ⟨h1, h2⟩ := pot_le hn t (i + 1) (fun x hx => h x (by simp [hx]))
    obtain ⟨h3, h4⟩ := tab_inv hn (h a (by simp))
    have c1 : 0 ≤ (i : Int) * invF a := Int.mul_nonneg (by omega) h3
    have c2 : (i : Int) * invF a ≤ (i : Int) * 10 := Int.mul_le_mul_of_nonneg_left h4 (by omega)
    have h1 : 0 ≤ pot ((i : Int) + 1) t := by
      have : ((i + 1 : Nat) : Int) = (i : Int) + 1 := by omega
      rwa [this] at h1
    have h2 : pot ((i : Int) + 1) t ≤ 10 * ((i + 1 + t.length : Nat) : Int) * (t.length : Int) := by
      have : ((i + 1 : Nat) : Int) = (i : Int) + 1 := by omega
      rwa [this] at h2
    refine ⟨by show 0 ≤ (i : Int) * invF a + pot ((i : Int) + 1) t; omega, ?_⟩
    show (i : Int) * invF a + pot ((i : Int) + 1) t ≤ 10 * ((i + (t.length + 1) : Nat) : Int) * ((t.length + 1 : Nat) : Int)
    have e : i + (t.length + 1) = i + 1 + t.length := by omega
    rw [e, show ((t.length + 1 : Nat) : Int) = (t.length : Int) + 1 by omega, Int.mul_add, Int.mul_one]
    omega
theorem prX {n : Nat} (hn : 2 ≤ n ∧ n ≤ 5) {l : List (List Int)} (hl : ∀ x ∈ l, IsP n x) (h : l.length ≤ 30) : ∃ r, prR 10000 l = some r := by
  obtain ⟨h1, h2⟩ := pot_le hn l 0 hl
  have h1 : 0 ≤ pot 0 l := h1
  have h2 : pot 0 l ≤ 10 * ((0 + l.length : Nat) : Int) * (l.length : Int) := h2
  rw [Nat.zero_add] at h2
  have h3 : 10 * (l.length : Int) * (l.length : Int) ≤ 10 * 30 * 30 := Int.mul_le_mul (by omega) (by omega) (by omega) (by decide)
  exact prT hn 10000 l hl (by omega) h1
theorem plX {n : Int} (hn : 2 ≤ n ∧ n ≤ 5) : ∀ (w : List Int) (s : Int × List (List Int)), okW n w → (∀ x ∈ s.2, IsP n.toNat x) → s.2.length + w.length ≤ 30 → ∃ r, plFrom n s w = some r
  | [], s, _, _, _ => ⟨s, rfl⟩
  | x :: w, s, hw, hs, hl => by
    have hx := hw x (by simp)
    have hp := isP_add (x := x) hs hx.1 hx.2
    simp only [List.length_cons] at hl
    obtain ⟨rs, hrs⟩ := prX (n := n.toNat) (by omega) hp (by rw [add_length]; omega)
    have e : pstep n s x = some (stripF (fullF n) (if 0 < x then s.1 else s.1 - 1) rs) := by
      unfold pstep
      rw [hrs]
    unfold plFrom
    rw [e]
    refine plX hn w _ (fun y hy => hw y (by simp [hy])) (isP_pstep hs hx.1 hx.2 e) ?_
    have := pstep_length e
    omega
theorem plFrom_append (n : Int) : ∀ (u v : List Int) (s : Int × List (List Int)), plFrom n s (u ++ v) = match plFrom n s u with
    | none => none
    | some s' => plFrom n s' v
  | [], v, s => rfl
  | x :: u, v, s => by
    show (match pstep n s x with | none => none | some s' => plFrom n s' (u ++ v)) = _
    rw [plFrom]
    cases pstep n s x with
    | none => rfl
    | some s' => exact plFrom_append n u v s'
end BR

set_option Elab.async false
set_option linter.all false
set_option maxRecDepth 1000000
set_option maxHeartbeats 4000000
/-! one order: what is checked; two orders: when they stand side by side -/
namespace BR
open KW
def bkF (w : List Int) : List Int := w.reverse.map fun x => -x
def lawFalls (n : Nat) (xs : List Int) : Int := (rgI 0 n).foldl (fun (s : Int) k => s + (((rgI 0 k.toNat).filter fun j => decide (xs.getD k.toNat 0 < xs.getD j.toNat 0)).length : Int)) 0
def dueF (n : Nat) (xs : List Int) : Int × List (List Int) := if 2 * lawFalls n xs = (n : Int) * ((n : Int) - 1) then (1, []) else if lawFalls n xs = 0 then (0, []) else (0, [xs])
def chn (n : Nat) (xs : List Int) : List Int → List Int → Bool
  | u, [] => decide (u = xs)
  | u, k :: w => !(endF u).contains k && !decide (wlF u k = fullF n) && !decide (wlF u k = idF n) && (begF (wlF u k)).all (fun j => (begF xs).contains j) && chn n xs (wlF u k) w
def posO (o : Option (Int × List (List Int))) (b : Bool) : Bool := match o with
  | none => false
  | some r => decide (0 ≤ r.1) == b
def chkO (n : Nat) (xs : List Int) : Bool :=
  let w := sfW xs
  let f := lawFalls n xs
  (sfR 64 xs).isSome && w.all (fun x => decide (1 ≤ x ∧ x ≤ (n : Int) - 1)) && decide ((w.length : Int) = f) && decide (w.length ≤ 10)
    && decide (orderF n w = xs) && decide (plR n w = some (dueF n xs)) && decide (lenF n (dueF n xs) = f) && decide (plR n (ofW n (dueF n xs)) = some (dueF n xs))
    && posO (plR n (bkF w)) (decide (f = 0))
    && (rgI 1 (n - 1)).all (fun k => posO (plR n (-k :: w)) (decide (k ∈ begF xs)) && posO (plFrom n (dueF n xs) [-k]) (decide (k ∈ endF xs)))
    && (!decide (begF xs = rgI 1 (n - 1)) || decide (2 * f = (n : Int) * ((n : Int) - 1))) && (!decide (endF xs = []) || decide (f = 0))
    && decide (plFrom n (1, []) w = plR n ((w.map fun k => (n : Int) - k) ++ halfF n))
    && (decide (2 * f = (n : Int) * ((n : Int) - 1)) || decide (f = 0) || (chn n xs (idF n) w && !decide (xs = idF n) && !decide (xs = fullF n)))
def chkH (n : Nat) : Bool := decide (plR n (halfF n) = some (1, [])) && decide (begF (idF n) = []) && (rgI 1 (n - 1)).all fun k => decide (begF (wlF (idF n) k) = [k]) && decide (wfF (wlF (idF n) k) k = idF n) && decide (orderF n [] = idF n)
set_option maxHeartbeats 0 in
theorem chkH_all : chkH 2 && chkH 3 && chkH 4 && chkH 5 = true := by decide +kernel
set_option maxHeartbeats 0 in
theorem chkO2 : (permsP 2 (idF 2)).all (chkO 2) = true := by decide +kernel
set_option maxHeartbeats 0 in
theorem chkO3 : (permsP 3 (idF 3)).all (chkO 3) = true := by decide +kernel
set_option maxHeartbeats 0 in
theorem chkO4 : (permsP 4 (idF 4)).all (chkO 4) = true := by decide +kernel
set_option maxHeartbeats 0 in
theorem chkO5_0 : ((permsP 4 ((idF 5).erase 0)).map (0 :: ·)).all (chkO 5) = true := by decide +kernel
set_option maxHeartbeats 0 in
theorem chkO5_1 : ((permsP 4 ((idF 5).erase 1)).map (1 :: ·)).all (chkO 5) = true := by decide +kernel
set_option maxHeartbeats 0 in
theorem chkO5_2 : ((permsP 4 ((idF 5).erase 2)).map (2 :: ·)).all (chkO 5) = true := by decide +kernel
set_option maxHeartbeats 0 in
theorem chkO5_3 : ((permsP 4 ((idF 5).erase 3)).map (3 :: ·)).all (chkO 5) = true := by decide +kernel
set_option maxHeartbeats 0 in
theorem chkO5_4 : ((permsP 4 ((idF 5).erase 4)).map (4 :: ·)).all (chkO 5) = true := by decide +kernel
theorem chkO5 : (permsP 5 (idF 5)).all (chkO 5) = true := by
  show ((idF 5).flatMap fun x => (permsP 4 ((idF 5).erase x)).map (x :: ·)).all (chkO 5) = true
  have e : idF 5 = [0, 1, 2, 3, 4] := by decide +kernel
  refine List.all_eq_true.mpr fun xs hxs => ?_
  obtain ⟨x, hx, hm⟩ := List.mem_flatMap.mp hxs
  have hx : x ∈ [(0 : Int), 1, 2, 3, 4] := e ▸ hx
  simp only [List.mem_cons, List.not_mem_nil, or_false] at hx
  rcases hx with rfl | rfl | rfl | rfl | rfl
  · exact List.all_eq_true.mp chkO5_0 xs hm
  · exact List.all_eq_true.mp chkO5_1 xs hm
  · exact List.all_eq_true.mp chkO5_2 xs hm
  · exact List.all_eq_true.mp chkO5_3 xs hm
  · exact List.all_eq_true.mp chkO5_4 xs hm
theorem chkO_all {n : Nat} (hn : 2 ≤ n ∧ n ≤ 5) {xs : List Int} (h : IsP n xs) : chkO n xs = true := by
  have hm := isP_mem h
  have : n = 2 ∨ n = 3 ∨ n = 4 ∨ n = 5 := by omega
  rcases this with rfl | rfl | rfl | rfl
  · exact List.all_eq_true.mp chkO2 xs hm
  · exact List.all_eq_true.mp chkO3 xs hm
  · exact List.all_eq_true.mp chkO4 xs hm
  · exact List.all_eq_true.mp chkO5 xs hm
theorem chkH_at {n : Nat} (hn : 2 ≤ n ∧ n ≤ 5) : chkH n = true := by
  have h := chkH_all
  simp only [Bool.and_eq_true] at h
  have : n = 2 ∨ n = 3 ∨ n = 4 ∨ n = 5 := by omega
  rcases this with rfl | rfl | rfl | rfl
  · exact h.1.1.1
  · exact h.1.1.2
  · exact h.1.2
  · exact h.2
end BR

set_option Elab.async false
set_option linter.all false
set_option maxRecDepth 1000000
set_option maxHeartbeats 4000000
namespace BR
open KW
/-! what comes out of the press -/
theorem pr_fix : ∀ (f : Nat) {l r : List (List Int)}, prR f l = some r → ∃ rs, passR r = some rs ∧ noId rs = r
  | 0, _, _, e => by cases e
  | f + 1, l, r, e => by
    unfold prR at e
    split at e
    · cases e
    · rename_i rs hrs
      split at e
      · rename_i h
        cases e
        exact ⟨rs, by rw [h]; exact hrs, rfl⟩
      · exact pr_fix f e
theorem strip_up {full : List Int} : ∀ (rows : List (List Int)) (c : Int), c ≤ (stripF full c rows).1 ∧ ((stripF full c rows).1 = c → (stripF full c rows).2 = rows)
  | [], c => ⟨Int.le_refl _, fun _ => rfl⟩
  | r :: t, c => by
    unfold stripF
    split
    · obtain ⟨h1, _⟩ := strip_up (full := full) t (c + 1)
      exact ⟨by omega, fun z => by omega⟩
    · exact ⟨Int.le_refl _, fun _ => rfl⟩
theorem pl_up {n : Int} : ∀ (w : List Int) (s r : Int × List (List Int)), (∀ x ∈ w, 0 < x) → plFrom n s w = some r → s.1 ≤ r.1 ∧ (w ≠ [] → r.1 = s.1 → ∃ l, prR 10000 l = some r.2)
  | [], s, r, _, e => by
    cases e
    exact ⟨Int.le_refl _, fun z => absurd rfl z⟩
  | x :: w, s, r, hw, e => by
    have hx := hw x (by simp)
    unfold plFrom at e
    split at e
    · cases e
    · rename_i s' hs'
      obtain ⟨h1, h2⟩ := pl_up w s' r (fun y hy => hw y (by simp [hy])) e
      unfold pstep at hs'
      split at hs'
      · cases hs'
      · rename_i rs hrs
        rw [if_pos hx] at hs'
        have hs' : stripF (fullF n) s.1 rs = s' := Option.some.inj hs'
        obtain ⟨u1, u2⟩ := strip_up (full := fullF n) rs s.1
        rw [hs'] at u1 u2
        refine ⟨by omega, fun _ z => ?_⟩
        by_cases c : w = []
        · subst c
          cases e
          exact ⟨_, by rw [u2 z]; exact hrs⟩
        · exact h2 c (by omega)
theorem noId_same {rs : List (List Int)} (h : (noId rs).length = rs.length) : noId rs = rs := by
  unfold noId at h ⊢
  exact List.filter_eq_self.mpr (List.length_filter_eq_length_iff.mp h)
theorem st_still {n : Nat} (hn : 2 ≤ n ∧ n ≤ 5) {one two : List Int} (h1 : IsP n one) (h2 : IsP n two) (e : stR 64 one two = some (one, two)) : ∀ k ∈ begF two, k ∈ endF one := by
  intro k hk
  by_cases c : k ∈ endF one
  · exact c
  · exfalso
    have e' : stR (63 + 1) one two = some (one, two) := e
    unfold stR at e'
    split at e'
    · rename_i h
      have : k ∈ (begF two).filter fun k => !decide (k ∈ endF one) := List.mem_filter.mpr ⟨hk, by simpa using c⟩
      rw [h] at this
      cases this
    · rename_i j t h
      have hj : j ∈ (begF two).filter fun k => !decide (k ∈ endF one) := h ▸ List.mem_cons_self
      have hjb := (List.mem_filter.mp hj).1
      have hje : j ∉ endF one := by simpa using (List.mem_filter.mp hj).2
      have hr := mem_beg hjb
      rw [h2.1] at hr
      have t1 := (tab_k hn h2 hr.1 hr.2).1 hjb
      have t2 := (tab_k hn h1 hr.1 hr.2).2 hje
      have b2 := tab_inv hn h2
      obtain ⟨r, e1, _, e3, _⟩ := stT hn 63 (wlF one j) (wfF two j) (isP_wl h1 hr.1 hr.2) (isP_wf h2 hr.1 hr.2) (by omega)
      rw [e1] at e'
      cases e'
      have e3 : invF (wlF one j) ≤ invF one := e3
      omega
theorem st_same {one two : List Int} (h : ∀ k ∈ begF two, k ∈ endF one) : stR 64 one two = some (one, two) := by
  show stR (63 + 1) one two = _
  unfold stR
  have : ((begF two).filter fun k => !decide (k ∈ endF one)) = [] := List.filter_eq_nil_iff.mpr fun k hk => by simpa using h k hk
  rw [this]
/-- no full row ahead, nothing removed: two rows side by side are settled -/
theorem pair_out {n : Nat} (hn : 2 ≤ n ∧ n ≤ 5) {one two : List Int} (h1 : IsP n one) (h2 : IsP n two) {l : List (List Int)} (e : prR 10000 l = some [one, two]) : ∀ k ∈ begF two, k ∈ endF one := by
  obtain ⟨rs, hp, hi⟩ := pr_fix 10000 e
  have hl := pass_length _ hp
  have : noId rs = rs := noId_same (by rw [hi, hl])
  rw [this] at hi
  subst hi
  obtain ⟨p, rs2, e1, e2, e3⟩ := pass_step hp
  have := pass_end (l := [p.2]) (Nat.le_refl _) e2
  subst this
  have q1 : one = p.1 := (List.cons.inj e3).1
  have q2 : two = p.2 := (List.cons.inj (List.cons.inj e3).2).1
  refine st_still hn h1 h2 ?_
  rw [e1]
  show some p = some (one, two)
  rw [q1, q2]
/-- the press leaves what is settled -/
theorem pr_two {one u : List Int} (h : ∀ k ∈ begF u, k ∈ endF one) (n1 : one ≠ idF one.length) (n2 : u ≠ idF u.length) (f : Nat) : prR (f + 1) [one, u] = some [one, u] := by
  have e : passR [one, u] = some [one, u] := by
    show passG one [u] = _
    unfold passG
    rw [st_same h]
    rfl
  have hi : noId [one, u] = [one, u] := by
    unfold noId
    rw [List.filter_cons, if_pos (by simpa using n1), List.filter_cons, if_pos (by simpa using n2)]
    rfl
  unfold prR
  rw [e]
  dsimp only
  rw [if_pos hi, hi]
theorem pr_three {one u g v : List Int} (h1 : ∀ k ∈ begF u, k ∈ endF one) (h2 : ∀ k ∈ begF v, k ∈ endF one) {m : Nat} (e : stR 64 u g = some (v, idF m)) (hm : (idF m).length = m) (n1 : one ≠ idF one.length) (n2 : v ≠ idF v.length) : prR 10000 [one, u, g] = some [one, v] := by
  have e1 : passR [one, u, g] = some [one, v, idF m] := by
    show passG one [u, g] = _
    unfold passG
    rw [st_same h1]
    dsimp only
    unfold passG
    rw [e]
    rfl
  have hi : noId [one, v, idF m] = [one, v] := by
    unfold noId
    rw [List.filter_cons, if_pos (by simpa using n1), List.filter_cons, if_pos (by simpa using n2), List.filter_cons, if_neg (by rw [hm]; simp)]
    rfl
  show prR (9999 + 1) _ = _
  unfold prR
  rw [e1]
  dsimp only
  rw [hi, if_neg (by intro z; have := congrArg List.length z; simp at this)]
  exact pr_two h2 n1 n2 9998
structure Gen (n : Nat) : Prop where
  beg : ∀ k : Int, 1 ≤ k → k < n → begF (wlF (idF n) k) = [k]
  wf : ∀ k : Int, 1 ≤ k → k < n → wfF (wlF (idF n) k) k = idF n
  id : begF (idF n) = []
  half : plR n (halfF n) = some (1, [])
theorem gen {n : Nat} (hn : 2 ≤ n ∧ n ≤ 5) : Gen n := by
  have h := chkH_at hn
  simp only [chkH, Bool.and_eq_true, decide_eq_true_eq] at h
  obtain ⟨⟨h1, h2⟩, h3⟩ := h
  refine ⟨fun k k1 k2 => ?_, fun k k1 k2 => ?_, h2, h1⟩
  all_goals
    have := List.all_eq_true.mp h3 k (mem_rgI.mpr (by omega))
    simp only [Bool.and_eq_true, decide_eq_true_eq] at this
  · exact this.1.1
  · exact this.1.2
theorem st_gen {n : Nat} (hn : 2 ≤ n ∧ n ≤ 5) {u : List Int} {k : Int} (k1 : 1 ≤ k) (k2 : k < n) (h : k ∉ endF u) : stR 64 u (wlF (idF n) k) = some (wlF u k, idF n) := by
  have g := gen hn
  show stR (63 + 1) u _ = _
  unfold stR
  have : ((begF (wlF (idF n) k)).filter fun j => !decide (j ∈ endF u)) = [k] := by
    rw [g.beg k k1 k2, List.filter_cons, if_pos (by simpa using h)]
    rfl
  rw [this]
  dsimp only
  rw [g.wf k k1 k2]
  show stR (62 + 1) _ _ = _
  unfold stR
  rw [g.id]
  rfl
/-- a word of an order, letter by letter, behind an order that it is settled with -/
theorem chain {n : Nat} (hn : 2 ≤ n ∧ n ≤ 5) {one two : List Int} (h1 : IsP n one) (hs : ∀ k ∈ begF two, k ∈ endF one) (no1 : one ≠ idF n) (nf1 : one ≠ fullF n) :
    ∀ (w : List Int) (u : List Int), IsP n u → (∀ x ∈ w, 1 ≤ x ∧ x < (n : Int)) → (∀ k ∈ begF u, k ∈ endF one) → u ≠ idF n → chn n two u w = true → plFrom n (0, [one, u]) w = some (0, [one, two])
  | [], u, _, _, _, _, h => by
    have : u = two := of_decide_eq_true h
    subst this
    rfl
  | k :: w, u, hu, hw, hb, hi, h => by
    simp only [chn, Bool.and_eq_true, Bool.not_eq_true', decide_eq_false_iff_not, List.all_eq_true, List.contains_eq_mem, decide_eq_true_eq] at h
    obtain ⟨⟨⟨⟨c1, c2⟩, c3⟩, c4⟩, c5⟩ := h
    have hk := hw k (by simp)
    have hu' := isP_wl hu hk.1 hk.2
    have hb' : ∀ j ∈ begF (wlF u k), j ∈ endF one := fun j hj => hs j (c4 j hj)
    have e : pstep n (0, [one, u]) k = some (0, [one, wlF u k]) := by
      unfold pstep addR
      rw [if_pos (by omega), if_pos (by omega)]
      have := pr_three (one := one) (u := u) (g := wlF (idF n) k) (v := wlF u k) hb hb' (st_gen hn hk.1 hk.2 c1) (isP_id n).1 (by rw [h1.1]; exact no1) (by rw [hu'.1]; exact c3)
      rw [Int.toNat_natCast]
      show (match prR 10000 ([one, u] ++ [wlF (idF n) k]) with | none => none | some rs => some (stripF (fullF n) 0 rs)) = _
      rw [show [one, u] ++ [wlF (idF n) k] = [one, u, wlF (idF n) k] from rfl, this]
      dsimp only
      unfold stripF
      rw [if_neg nf1]
    unfold plFrom
    rw [e]
    exact chain hn h1 hs no1 nf1 w (wlF u k) hu' (fun x hx => hw x (by simp [hx])) hb' c3 c5
theorem chain0 {n : Nat} (hn : 2 ≤ n ∧ n ≤ 5) {one two : List Int} (h1 : IsP n one) (hs : ∀ k ∈ begF two, k ∈ endF one) (no1 : one ≠ idF n) (nf1 : one ≠ fullF n) (no2 : two ≠ idF n) {w : List Int} (hw : ∀ x ∈ w, 1 ≤ x ∧ x < (n : Int)) (h : chn n two (idF n) w = true) :
    plFrom n (0, [one]) w = some (0, [one, two]) := by
  match w, hw, h with
  | [], _, h =>
    have : idF n = two := of_decide_eq_true h
    exact absurd this.symm no2
  | k :: w, hw, h =>
    simp only [chn, Bool.and_eq_true, Bool.not_eq_true', decide_eq_false_iff_not, List.all_eq_true, List.contains_eq_mem, decide_eq_true_eq] at h
    obtain ⟨⟨⟨⟨c1, c2⟩, c3⟩, c4⟩, c5⟩ := h
    have hk := hw k (by simp)
    have hu' := isP_wl (isP_id n) hk.1 hk.2
    have hb' : ∀ j ∈ begF (wlF (idF n) k), j ∈ endF one := fun j hj => hs j (c4 j hj)
    have e : pstep n (0, [one]) k = some (0, [one, wlF (idF n) k]) := by
      unfold pstep addR
      rw [if_pos (by omega), if_pos (by omega), Int.toNat_natCast]
      have := pr_two (one := one) (u := wlF (idF n) k) hb' (by rw [h1.1]; exact no1) (by rw [hu'.1]; exact c3) 9999
      show (match prR 10000 ([one] ++ [wlF (idF n) k]) with | none => none | some rs => some (stripF (fullF n) 0 rs)) = _
      rw [show [one] ++ [wlF (idF n) k] = [one, wlF (idF n) k] from rfl, this]
      dsimp only
      unfold stripF
      rw [if_neg nf1]
    unfold plFrom
    rw [e]
    exact chain hn h1 hs no1 nf1 w (wlF (idF n) k) hu' (fun x hx => hw x (by simp [hx])) hb' c3 c5
/-- side by side: just so when settled -/
theorem pair_iff {n : Nat} (hn : 2 ≤ n ∧ n ≤ 5) {one two : List Int} (h1 : IsP n one) (h2 : IsP n two) (no1 : one ≠ idF n) (nf1 : one ≠ fullF n) (no2 : two ≠ idF n) {w : List Int} (hw : ∀ x ∈ w, 1 ≤ x ∧ x < (n : Int)) (h : chn n two (idF n) w = true)
    {r : Int × List (List Int)} (hr : plFrom n (0, [one]) w = some r) : r = (0, [one, two]) ↔ ∀ k ∈ begF two, k ∈ endF one := by
  constructor
  · intro e
    subst e
    have hne : w ≠ [] := by
      intro z
      subst z
      have : idF n = two := of_decide_eq_true h
      exact no2 this.symm
    obtain ⟨l, hl⟩ := (pl_up w (0, [one]) (0, [one, two]) (fun x hx => by have := hw x hx; omega) hr).2 hne rfl
    exact pair_out hn h1 h2 hl
  · intro hs
    rw [chain0 hn h1 hs no1 nf1 no2 hw h] at hr
    exact (Option.some.inj hr).symm
end BR

set_option Elab.async false
set_option linter.all false
set_option maxRecDepth 1000000
set_option maxHeartbeats 4000000
/-! the checks, told one by one -/
namespace BR
open KW
theorem okW_of {n : Int} {w : List Int} (h : ∀ x ∈ w, x ≠ 0 ∧ -n < x ∧ x < n) : okW n w := fun x hx => by
  have := h x hx
  split <;> omega
theorem posO_get {o : Option (Int × List (List Int))} {b : Bool} (h : posO o b = true) : ∃ r, o = some r ∧ decide (0 ≤ r.1) = b := by
  cases o with
  | none => cases h
  | some r => exact ⟨r, rfl, by simpa [posO] using h⟩
theorem mem_half {n : Nat} {x : Int} (h : x ∈ halfF n) : 1 ≤ x ∧ x < (n : Int) := by
  obtain ⟨j, hj, hx⟩ := List.mem_flatMap.mp h
  obtain ⟨i, hi, rfl⟩ := List.mem_map.mp hj
  have := List.mem_range.mp hi
  have := mem_rgI.mp hx
  omega
structure FO (n : Nat) (xs w : List Int) (f : Int) (due : Int × List (List Int)) : Prop where
  sf : sfR 64 xs = some w
  pos : ∀ x ∈ w, 1 ≤ x ∧ x < (n : Int)
  len : (w.length : Int) = f
  le : w.length ≤ 10
  ord : orderF n w = xs
  pl : plR n w = some due
  ln : lenF n due = f
  of : plR n (ofW n due) = some due
  bk : ∃ r, plR n (bkF w) = some r ∧ decide (0 ≤ r.1) = decide (f = 0)
  beg : ∀ k : Int, 1 ≤ k → k < n → ∃ r, plR n (-k :: w) = some r ∧ decide (0 ≤ r.1) = decide (k ∈ begF xs)
  en : ∀ k : Int, 1 ≤ k → k < n → ∃ r, plR n (w ++ [-k]) = some r ∧ decide (0 ≤ r.1) = decide (k ∈ endF xs)
  fullB : begF xs = rgI 1 (n - 1) → 2 * f = (n : Int) * ((n : Int) - 1)
  noE : endF xs = [] → f = 0
  tw : ∃ r, plR n (halfF n ++ w) = some r ∧ plR n ((w.map fun k => (n : Int) - k) ++ halfF n) = some r
  prop : 2 * f ≠ (n : Int) * ((n : Int) - 1) → f ≠ 0 → chn n xs (idF n) w = true ∧ xs ≠ idF n ∧ xs ≠ fullF n
theorem facts {n : Nat} (hn : 2 ≤ n ∧ n ≤ 5) {xs : List Int} (h : IsP n xs) : FO n xs (sfW xs) (lawFalls n xs) (dueF n xs) := by
  have hc := chkO_all hn h
  unfold chkO at hc
  simp only [Bool.and_eq_true, decide_eq_true_eq, Bool.or_eq_true, Bool.not_eq_true', decide_eq_false_iff_not, List.all_eq_true] at hc
  obtain ⟨⟨⟨⟨⟨⟨⟨⟨⟨⟨⟨⟨⟨c1, c2⟩, c3⟩, c4⟩, c5⟩, c6⟩, c7⟩, c8⟩, c9⟩, c10⟩, c11⟩, c12⟩, c13⟩, c14⟩ := hc
  have hpos : ∀ x ∈ sfW xs, 1 ≤ x ∧ x < (n : Int) := fun x hx => by have := c2 x hx; omega
  have hsf : sfR 64 xs = some (sfW xs) := by
    unfold sfW
    cases e : sfR 64 xs with
    | none => rw [e] at c1; cases c1
    | some w => rfl
  have okh : okW n (halfF n) := okW_of fun x hx => by have := mem_half hx; omega
  have okt : okW n ((sfW xs).map fun k => (n : Int) - k) := okW_of fun x hx => by
    obtain ⟨k, hk, rfl⟩ := List.mem_map.mp hx
    have := hpos k hk
    omega
  refine ⟨hsf, hpos, c3, c4, c5, c6, c7, c8, posO_get c9, fun k k1 k2 => ?_, fun k k1 k2 => ?_, fun z => ?_, fun z => ?_, ?_, fun z1 z2 => ?_⟩
  · exact posO_get (c10 k (mem_rgI.mpr (by omega))).1
  · have := posO_get (c10 k (mem_rgI.mpr (by omega))).2
    obtain ⟨r, e1, e2⟩ := this
    refine ⟨r, ?_, e2⟩
    unfold plR at c6 ⊢
    rw [plFrom_append, c6]
    exact e1
  · rcases c11 with h | h
    · exact absurd z h
    · exact h
  · rcases c12 with h | h
    · exact absurd z h
    · exact h
  · have g := (gen hn).half
    have e1 : plR n (halfF n ++ sfW xs) = plFrom n (1, []) (sfW xs) := by
      unfold plR at g ⊢
      rw [plFrom_append, g]
    have hlen : (halfF n).length ≤ 10 := by
      have : n = 2 ∨ n = 3 ∨ n = 4 ∨ n = 5 := by omega
      rcases this with rfl | rfl | rfl | rfl <;> decide +kernel
    obtain ⟨r, hr⟩ := plX (n := (n : Int)) (by omega) (sfW xs) (1, []) (okW_of fun x hx => by have := hpos x hx; omega) (by simp) (by show 0 + (sfW xs).length ≤ 30; omega)
    exact ⟨r, by rw [e1]; exact hr, by rw [← c13]; exact hr⟩
  · rcases c14 with (h | h) | h
    · exact absurd h z1
    · exact absurd h z2
    · exact ⟨h.1.1, h.1.2, h.2⟩
end BR

set_option Elab.async false
set_option linter.all false
set_option maxRecDepth 100000
set_option maxHeartbeats 8000000
namespace K69
open PySem PySem.Spec PyProof.Rows L2 KW BR
def topS (i : Nat) : Stmt := PySem.Challenge.pw_knotwright_k69_whole_braids_of_orders.main.body.getD i (.Pass ⟨0, 0, 0, 0⟩)
abbrev s_inversions : Stmt := topS 1
theorem sc_inversions : FnScope ["order", "j", "k"] ["order"] (defScope s_inversions) := ⟨rfl, rfl, rfl, by decide +kernel, rfl, by decide +kernel, by decide +kernel⟩
abbrev s_back : Stmt := topS 3
theorem sc_back : FnScope ["braid", "x"] ["braid"] (defScope s_back) := ⟨rfl, rfl, rfl, by decide +kernel, rfl, by decide +kernel, by decide +kernel⟩
abbrev s_order_of : Stmt := topS 4
theorem sc_order_of : FnScope ["n", "braid", "places", "x", "k"] ["n", "braid"] (defScope s_order_of) := ⟨rfl, rfl, rfl, by decide +kernel, rfl, by decide +kernel, by decide +kernel⟩
abbrev s_half : Stmt := topS 5
theorem sc_half : FnScope ["n", "j", "k"] ["n"] (defScope s_half) := ⟨rfl, rfl, rfl, by decide +kernel, rfl, by decide +kernel, by decide +kernel⟩
abbrev s_shortest_for : Stmt := topS 6
theorem sc_shortest_for : FnScope ["order", "row", "found", "falls", "k"] ["order"] (defScope s_shortest_for) := ⟨rfl, rfl, rfl, by decide +kernel, rfl, by decide +kernel, by decide +kernel⟩
abbrev s_begins : Stmt := topS 7
theorem sc_begins : FnScope ["order", "k"] ["order"] (defScope s_begins) := ⟨rfl, rfl, rfl, by decide +kernel, rfl, by decide +kernel, by decide +kernel⟩
abbrev s_ends : Stmt := topS 8
theorem sc_ends : FnScope ["order", "places", "k"] ["order"] (defScope s_ends) := ⟨rfl, rfl, rfl, by decide +kernel, rfl, by decide +kernel, by decide +kernel⟩
abbrev s_with_first : Stmt := topS 9
theorem sc_with_first : FnScope ["order", "k", "row"] ["order", "k"] (defScope s_with_first) := ⟨rfl, rfl, rfl, by decide +kernel, rfl, by decide +kernel, by decide +kernel⟩
abbrev s_with_last : Stmt := topS 10
theorem sc_with_last : FnScope ["order", "k", "x"] ["order", "k"] (defScope s_with_last) := ⟨rfl, rfl, rfl, by decide +kernel, rfl, by decide +kernel, by decide +kernel⟩
abbrev s_settled : Stmt := topS 11
theorem sc_settled : FnScope ["one", "two", "more", "k"] ["one", "two"] (defScope s_settled) := ⟨rfl, rfl, rfl, by decide +kernel, rfl, by decide +kernel, by decide +kernel⟩
abbrev s_plain : Stmt := topS 12
theorem sc_plain : FnScope ["n", "braid", "full", "none", "count", "rows", "x", "k", "row"] ["n", "braid"] (defScope s_plain) := ⟨rfl, rfl, rfl, by decide +kernel, rfl, by decide +kernel, by decide +kernel⟩
abbrev s_flipped : Stmt := topS 13
theorem sc_flipped : FnScope ["order", "n", "k"] ["order"] (defScope s_flipped) := ⟨rfl, rfl, rfl, by decide +kernel, rfl, by decide +kernel, by decide +kernel⟩
abbrev s_pressed : Stmt := topS 14
theorem sc_pressed : FnScope ["rows", "before", "k", "row"] ["rows"] (defScope s_pressed) := ⟨rfl, rfl, rfl, by decide +kernel, rfl, by decide +kernel, by decide +kernel⟩
abbrev s_same : Stmt := topS 15
theorem sc_same : FnScope ["n", "one", "two"] ["n", "one", "two"] (defScope s_same) := ⟨rfl, rfl, rfl, by decide +kernel, rfl, by decide +kernel, by decide +kernel⟩
abbrev s_of_plain : Stmt := topS 16
theorem sc_of_plain : FnScope ["n", "form", "count", "rows", "turn", "row", "x"] ["n", "form"] (defScope s_of_plain) := ⟨rfl, rfl, rfl, by decide +kernel, rfl, by decide +kernel, by decide +kernel⟩
abbrev s_is_positive : Stmt := topS 17
theorem sc_is_positive : FnScope ["n", "braid"] ["n", "braid"] (defScope s_is_positive) := ⟨rfl, rfl, rfl, by decide +kernel, rfl, by decide +kernel, by decide +kernel⟩
abbrev s_length_of : Stmt := topS 18
theorem sc_length_of : FnScope ["n", "braid", "count", "rows", "row"] ["n", "braid"] (defScope s_length_of) := ⟨rfl, rfl, rfl, by decide +kernel, rfl, by decide +kernel, by decide +kernel⟩
abbrev s__law_cell : Stmt := topS 20
theorem sc__law_cell : FnScope ["script", "k"] ["script", "k"] (defScope s__law_cell) := ⟨rfl, rfl, rfl, by decide +kernel, rfl, by decide +kernel, by decide +kernel⟩
abbrev s__law_draws : Stmt := topS 21
theorem sc__law_draws : FnScope ["cell", "amount", "rows", "left", "k", "blended"] ["cell", "amount"] (defScope s__law_draws) := ⟨rfl, rfl, rfl, by decide +kernel, rfl, by decide +kernel, by decide +kernel⟩
abbrev s__law_pool : Stmt := topS 22
theorem sc__law_pool : FnScope ["script", "rows", "k"] ["script"] (defScope s__law_pool) := ⟨rfl, rfl, rfl, by decide +kernel, rfl, by decide +kernel, by decide +kernel⟩
abbrev s__law_pick : Stmt := topS 23
theorem sc__law_pick : FnScope ["pool", "amount", "at", "turn"] ["pool", "amount"] (defScope s__law_pick) := ⟨rfl, rfl, rfl, by decide +kernel, rfl, by decide +kernel, by decide +kernel⟩
abbrev s__law_drawn_order : Stmt := topS 24
theorem sc__law_drawn_order : FnScope ["pool", "n", "left", "found", "k"] ["pool", "n"] (defScope s__law_drawn_order) := ⟨rfl, rfl, rfl, by decide +kernel, rfl, by decide +kernel, by decide +kernel⟩
abbrev s_law : Stmt := topS 25
theorem sc_law : FnScope ["script", "pool", "n", "one", "two", "rows", "order", "word", "falls", "k", "due", "still", "turned", "j"] ["script"] (defScope s_law) := ⟨rfl, rfl, rfl, by decide +kernel, rfl, by decide +kernel, by decide +kernel⟩
local macro_rules | `(tactic| walk_at "ev") => `(tactic| repeat' (first
  | with_reducible exact ev_int | with_reducible exact ev_str | with_reducible exact ev_bool | with_reducible exact ev_none
  | ((with_reducible apply ev_var); exact rfl)
  | with_reducible exact rv_add | with_reducible exact rv_sub | with_reducible exact rv_lt | with_reducible exact rv_le | with_reducible exact rv_gt | with_reducible exact rv_ge
  | with_reducible exact rv_eqI | with_reducible exact rv_neI | with_reducible exact rv_eqB | with_reducible exact rv_neB | with_reducible exact rv_eqT | with_reducible exact rv_neT | with_reducible exact rv_eqLI | with_reducible exact rv_neLI
  | with_reducible exact rv_isB | with_reducible exact rv_notB | with_reducible exact rv_inLI | with_reducible exact rv_inTI | with_reducible exact rv_niLI | with_reducible exact rv_niTI
  | ((with_reducible apply rv_eqS) <;> decide +kernel) | ((with_reducible apply rv_neS) <;> decide +kernel)
  | with_reducible apply rv_mul | with_reducible apply rv_mod | with_reducible apply rv_fdiv | with_reducible apply rv_pow | with_reducible apply rv_ixTI | with_reducible apply rv_ixLI | with_reducible apply rv_ixT | with_reducible apply rv_ixL | with_reducible apply rv_addT
  | with_reducible exact ru_neg
  | with_reducible exact rc_abs | with_reducible exact rc_max | with_reducible exact rc_min | with_reducible exact rc_minT | with_reducible exact rc_intI | with_reducible exact rc_intB | with_reducible exact rc_lenTI | with_reducible exact rc_lenLI | with_reducible exact rc_lenT | with_reducible exact rc_lenL | with_reducible exact rc_tupL | with_reducible exact rc_tupT | with_reducible exact rc_sum | with_reducible exact rc_all
  | with_reducible apply ev_opR
  | with_reducible apply ev_isiR
  | with_reducible exact isi_int | with_reducible exact isi_int_bool | with_reducible exact isi_tup | with_reducible exact isi_str
  | with_reducible apply ev_cbR
  | with_reducible apply KW.ev_un
  | with_reducible apply ev_tupR
  | ((with_reducible show okT _ = true); exact rfl)
  | with_reducible apply ev_revD
  | with_reducible exact RevD.lst _ | with_reducible exact RevD.tup _
  | with_reducible apply ev_slD
  | with_reducible exact SlD.lst _ | with_reducible exact SlD.tup _
  | with_reducible apply ef_lstR
  | with_reducible apply KW.ef_call
  | with_reducible apply KW.ef_addX_L
  | with_reducible apply KW.ef_listRg1 | with_reducible apply KW.ev_tupRg1 | with_reducible apply KW.ev_tupRg2
  | with_reducible apply ep_some
  | with_reducible exact ep_none
  | with_reducible apply KW.eb_test
  | with_reducible apply KW.eb_B
  | with_reducible apply KW.eb_not
  | with_reducible apply KW.ev_not
  | with_reducible exact eas_nil
  | with_reducible apply eas_cons
  | with_reducible apply KW.eb_and
  | with_reducible apply KW.eb_or
  | with_reducible apply KW.ev_and
  | with_reducible apply KW.ev_or
  | with_reducible apply KW.ev_chain
  | with_reducible apply KW.ev_call | with_reducible apply KW.ev_callF
  | walk_at "fr"
  | with_reducible refine fun (_ : _ = true) => ?_
  | with_reducible refine fun (_ : _ = false) => ?_))
local macro_rules | `(tactic| walk_at "sd") => `(tactic| first
  | assumption | omega | exact rfl | exact noL_tI _ | exact noLs_ints _ | exact Nat.le_of_ble_eq_true rfl
  | (refine Or.inl ⟨?_, ?_⟩ <;> omega) | (refine Or.inr ⟨?_, ?_⟩ <;> omega) | (refine And.intro ?_ ?_ <;> omega) | exact ⟨by omega, by omega, by decide⟩
  | exact ⟨_, _, rfl, rfl⟩)
local macro_rules | `(tactic| walk_at "set") => `(tactic| (apply run_seq; apply run_setR; (focus walk_at "ev"); all_goals (try walk_at "sd"); try dsimp only [List.set]))
local macro_rules | `(tactic| walk_at "setF") => `(tactic| (apply run_seq; apply run_setF; (focus walk_at "ev"); all_goals (try walk_at "sd"); try dsimp only [List.set]))
local macro_rules | `(tactic| walk_at "if") => `(tactic| (apply run_seq; apply run_if; (focus walk_at "ev"); all_goals (try walk_at "sd")))
local macro_rules | `(tactic| walk_at "if1") => `(tactic| (apply run_if; (focus walk_at "ev"); all_goals (try walk_at "sd")))
local macro_rules | `(tactic| walk_at "ret") => `(tactic| (apply ret_R; apply EvR.to; (focus walk_at "ev"); all_goals (try walk_at "sd")))
local macro_rules | `(tactic| walk_at "app") => `(tactic| (apply run_app; exact rfl; (focus walk_at "ev"); all_goals (try walk_at "sd"); try dsimp only [List.set]))
local macro_rules | `(tactic| walk_at "fr") => `(tactic| first | exact ⟨_, _, rfl, by omega, rfl⟩ | exact ⟨_, rfl, rfl⟩ | exact ⟨_, _, rfl, rfl⟩ | exact ⟨_, _, _, rfl, rfl⟩)

section
variable {P : Program} {w : World} {K : PySem.W.Frag} {mg : Str → Option Value} {base : Heap}
/-! back -/
def backF (w : List Int) : List Int := w.reverse.map fun x => -x
def frBack : List D → D → Prop := fun ds d => ∃ w : List Int, ds = [tI w] ∧ w.length ≤ 1000 ∧ d = tI (backF w)
theorem map_if (xs : List Int) (g : Int → D) : (xs.filter fun _ => true).map g = xs.map g := by rw [List.filter_eq_self.mpr (fun _ _ => rfl)]
theorem ok_back {f : Addr} {fd : FuncData} (F : Fun K "back" "back" s_back f fd) (m : Bl mg) : FnOk P w K mg base CX0 1 f fd ["braid"] (spR K frBack) := by
  refine def_R F sc_back frBack (fun ds d ⟨_, h, _⟩ => by rw [h]; rfl) fun cdv A outer s H E hr => ⟨_, (pss_one (ps_ret (pe_callTy (tupOf_K K rfl) (by rfl) m.tuple (by decide +kernel) (pa_cons (pe_lc (own := [("x", 1)]) rfl sc_back.nd (seq_K K rfl (rev_K K rfl (pv 0))) (blkOk_by (N := ["braid", "x"]) (sc := defScope s_back) (by decide +kernel)) (fun _ _ _ _ _ => (pg_name (i := 1) sc_back.nd rfl (Or.inl rfl))) (fun _ _ _ _ _ => pts_nil) (fun _ _ _ _ _ => (pe_un un_neg (pv 1)))) pa_nil)))), fun ds d ⟨w, h1, hl, h2⟩ B => ?_⟩
  subst h1 h2
  try dsimp only [cxOf, Cx.nox, Cx.wish]
  change Run K B _ [.im (tI w), .no] _
  refine ret_R (EvR.to (ev_cbR (ds := [.list ((w.reverse.filter fun _ => true).map fun x => .int (-x))]) (eas_cons (EvF.r (ef_lc w.reverse .int (fun x => [(1, .int x)]) (fun _ => true) (fun x => .int (-x)) (it_seqT (ds := w.reverse.map .int) (EvR.to (ev_revD (ev_var rfl) (RevD.tup _)) (by rw [rev_ints]))) (fun _ _ => tg_name) (fun _ _ p hp => by
      rw [List.mem_singleton.mp hp]; simp) (fun a ha => fun σ H E Q q => q H (Evl.Ex.refl H)) (fun a ha _ => em_R rfl (by walk_at "ev")) (by rw [List.length_reverse]; omega))) eas_nil) rc_tupL) ?_)
  rw [map_if]
  show PyData.tuple _ = .tuple ((w.reverse.map fun x => -x).map .int)
  rw [List.map_map]
  rfl
/-! order_of -/
def frOrder : List D → D → Prop := fun ds d => ∃ (n : Int) (w : List Int), ds = [.int n, tI w] ∧ (0 ≤ n ∧ n ≤ 1000 ∧ okW n w) ∧ d = tI (orderF n w)
theorem ixN_ok {len : Nat} {k : Int} (h0 : 0 ≤ k) (h1 : k < len) : ixN len k = some k.toNat := by
  unfold ixN
  simp [h0]
  exact h1
theorem set_ints (xs : List Int) (j : Nat) (x : Int) : (xs.map PyData.int).set j (.int x) = (xs.set j x).map .int := List.map_set.symm
theorem ok_order_of {f : Addr} {fd : FuncData} (F : Fun K "order_of" "order_of" s_order_of f fd) (m : Bl mg) : FnOk P w K mg base CX0 1 f fd ["n", "braid"] (spR K frOrder) := by
  refine def_R F sc_order_of frOrder (fun ds d ⟨_, _, h, _⟩ => by rw [h]; rfl) fun cdv A outer s H E hr => ⟨_, (pss_cons (ps_set (i := 2) sc_order_of.nd rfl (.inr rfl) (pe_listRg rfl (by rfl) m.list (prg_1 (by rfl) m.range (pv 0))))
        (pss_cons (ps_for PassesOwn.never rfl (seq_K K rfl (pv 1)) (pg_name (i := 3) sc_order_of.nd rfl (Or.inl rfl)) (pss_cons (ps_set (i := 4) sc_order_of.nd rfl (.inl rfl) (pe_op op_sub (pe_callB call_abs (by rfl) m.abs (by decide +kernel) (pa_cons (pv 3) pa_nil)) pe_int))
        (pss_one (ps_asg (KW.pe_tup (pa_cons (pe_ix (ix_K K rfl) (pv 2) (pe_op (op_addK K rfl) (pv 4) pe_int) (fun _ _ => rfl)) (pa_cons (pe_ix (ix_K K rfl) (pv 2) (pv 4) (fun _ _ => rfl)) pa_nil))) (tup_K K rfl rfl (pgs_cons (pg_sub (pv 2) (pv 4) set_list) (pgs_cons (pg_sub (pv 2) (pe_op (op_addK K rfl) (pv 4) pe_int) set_list) pgs_nil)))))))
        (pss_one (ps_ret (pe_callTy (tupOf_K K rfl) (by rfl) m.tuple (by decide +kernel) (pa_cons (pe_lc (own := [("k", 4)]) rfl sc_order_of.nd (pi_range1 (by rfl) m.range (pa_cons (pv 0) pa_nil)) (blkOk_by (N := ["n", "braid", "places", "x", "k"]) (sc := defScope s_order_of) (by decide +kernel)) (fun _ _ _ _ _ => (pg_name (i := 4) sc_order_of.nd rfl (Or.inl rfl))) (fun _ _ _ _ _ => pts_nil) (fun _ _ _ _ _ => (bm_K K rfl PySem.F.plainAttrs_list PySem.F.slot_list_index PySem.F.type_list_index (mtIdx_K K rfl) (pv 2) (pa_cons (pv 4) pa_nil)))) pa_nil)))))), fun ds d ⟨n, w, h1, ⟨hn, hn2, hw⟩, h2⟩ B => ?_⟩
  subst h1 h2
  try dsimp only [cxOf, Cx.nox, Cx.wish]
  change Run K B _ [.im (.int n), .im (tI w), .no, .no, .no] _
  refine run_seq (run_setF (ds := (idF n.toNat).map .int) (KW.ef_listRg1 (ev_var rfl) (by omega)) (noLs_ints _) (Nat.le_of_ble_eq_true rfl) ?_)
  dsimp only [List.set]
  refine run_seq (run_for_fold w .int (fun x => [(3, .int x)]) (its_seqT (ev_var rfl) (noLs_ints w)) (fun _ _ => tg_name)
    (fun ps S' => ∃ e3 e4, S' = [.im (.int n), .im (tI w), .ow (ps.map .int), e3, e4]) (fun ps x => swapI ps ((if x < 0 then -x else x) - 1).toNat) (idF n.toNat) ⟨_, _, rfl⟩ ?_ ?_ ?_)
  · rintro b k S' _ ⟨e3, e4, rfl⟩ p hp
    rw [List.mem_singleton.mp hp]
    exact Nat.le_of_ble_eq_true rfl
  · rintro i ps x S' hx hb ⟨e3, e4, rfl⟩
    have hxw := hw x (List.mem_of_getElem? hx)
    have hp : IsP n.toNat ps := by
      rw [hb]
      exact isP_places (w.take i) (fun y hy => hw y (List.mem_of_mem_take hy)) _ (isP_id _)
    have hl := hp.1
    change Run K B _ [.im (.int n), .im (tI w), .ow (ps.map .int), .im (.int x), e4] _
    refine run_seq (run_setR (d := .int ((if x < 0 then -x else x) - 1)) (by walk_at "ev") rfl (Nat.le_of_ble_eq_true rfl) ?_)
    dsimp only [List.set]
    have hk : 0 ≤ (if x < 0 then -x else x) - 1 ∧ (if x < 0 then -x else x) - 1 < n - 1 := by omega
    clear hxw
    generalize (if x < 0 then -x else x) - 1 = k at hk ⊢
    refine run_swap (i := 2) (ds := ps.map .int) (d1 := .int (ps.getD (k + 1).toNat 0)) (d2 := .int (ps.getD k.toNat 0)) (k1 := k) (k2 := k + 1) (j1 := k.toNat) (j2 := (k + 1).toNat) rfl ?_ ?_ rfl rfl (ev_var rfl) (ixN_ok (by omega) (by rw [List.length_map]; omega)) ?_ (ixN_ok (by omega) (by rw [List.length_map]; omega)) ?_
    · walk_at "ev" <;> omega
    · walk_at "ev" <;> omega
    · walk_at "ev"
    · dsimp only [List.set]
      rw [set_ints, set_ints, show (k + 1).toNat = k.toNat + 1 by omega]
      exact ⟨_, _, rfl⟩
  · rintro S' ⟨e3, e4, rfl⟩
    have hp : IsP n.toNat (placesF n w) := isP_places w hw _ (isP_id _)
    change Run K B _ [.im (.int n), .im (tI w), .ow ((placesF n w).map .int), e3, e4] _
    refine ret_R (EvR.to (ev_cbR (ds := [.list (((rgI 0 n.toNat).filter fun _ => true).map fun k => .int (idxI (placesF n w) k))]) (eas_cons (EvF.r (ef_lc (rgI 0 n.toNat) .int (fun k => [(4, .int k)]) (fun _ => true) (fun k => .int (idxI (placesF n w) k)) (it_rng1 (n := n) (by walk_at "ev") (by omega)) (fun _ _ => tg_name) (fun _ _ p hp => by
      rw [List.mem_singleton.mp hp]; simp) (fun a ha => fun σ H E Q q => q H (Evl.Ex.refl H)) (fun a ha _ => em_R rfl (ev_lix (ns := placesF n w) (k := a) (ev_var rfl) (ev_var rfl) (idx_get ?_) (idx_ne ?_))) (by rw [rgI_length]; omega))) eas_nil) rc_tupL) ?_)
    · have := mem_rgI.mp ha
      exact hp.2 a (by omega) (by omega)
    · have := mem_rgI.mp ha
      exact hp.2 a (by omega) (by omega)
    · rw [map_if]
      show PyData.tuple _ = .tuple ((orderF n w).map .int)
      rw [orderF, List.map_map]
      rfl
/-! half -/
def frHalf : List D → D → Prop := fun ds d => ∃ n : Int, ds = [.int n] ∧ (2 ≤ n ∧ n ≤ 5) ∧ d = tI (halfF n)
theorem flat_len {α β : Type} {f : α → List β} {c : Nat} : ∀ l : List α, (∀ a ∈ l, (f a).length ≤ c) → (l.flatMap f).length ≤ c * l.length
  | [], _ => by simp
  | a :: l, h => by
    rw [List.flatMap_cons, List.length_append, List.length_cons, Nat.mul_add]
    have h1 := flat_len l (fun b hb => h b (by simp [hb]))
    have h2 := h a (by simp)
    omega
theorem half_len {n : Int} (h : 2 ≤ n ∧ n ≤ 5) : ∀ i, (((dnI (n - 1) (n - 1 - 0).toNat).take i).flatMap fun a => ((rgI 1 (a + 1 - 1).toNat).filter fun _ => true).map PyData.int).length ≤ 50000 := by
  intro i
  have h1 := flat_len (c := 5) (f := fun a => ((rgI 1 (a + 1 - 1).toNat).filter fun _ => true).map PyData.int) ((dnI (n - 1) (n - 1 - 0).toNat).take i) fun a ha => by
    obtain ⟨i, hi, rfl⟩ := List.mem_map.mp (List.mem_of_mem_take ha)
    have := List.mem_range.mp hi
    rw [map_if, List.length_map, rgI_length]
    omega
  have h2 : ((dnI (n - 1) (n - 1 - 0).toNat).take i).length ≤ 5 := by
    rw [List.length_take, dnI, List.length_map, List.length_range]
    omega
  omega
theorem ok_half {f : Addr} {fd : FuncData} (F : Fun K "half" "half" s_half f fd) (m : Bl mg) : FnOk P w K mg base CX0 1 f fd ["n"] (spR K frHalf) := by
  refine def_R F sc_half frHalf (fun ds d ⟨_, h, _⟩ => by rw [h]; rfl) fun cdv A outer s H E hr => ⟨_, (pss_one (ps_ret (pe_callTy (tupOf_K K rfl) (by rfl) m.tuple (by decide +kernel) (pa_cons (pe_lc2 (own := [("j", 1), ("k", 2)]) (vs1 := [2]) rfl sc_half.nd (pi_range3 (by rfl) m.range (pa_cons (pe_op op_sub (pv 0) pe_int) (pa_cons pe_int (pa_cons (pe_un un_neg pe_int) pa_nil)))) (blkOk_by (N := ["n", "j", "k"]) (sc := defScope s_half) (by decide +kernel)) (by decide) (fun _ _ _ _ _ => (pg_name (i := 1) sc_half.nd rfl (Or.inl rfl))) (fun _ _ _ _ _ => pts_nil) (fun _ _ _ _ _ => (pi_range2 (by rfl) m.range (pa_cons pe_int (pa_cons (pe_op (op_addK K rfl) (pv 1) pe_int) pa_nil)))) (fun _ _ _ _ _ => (pg_name (i := 2) sc_half.nd rfl (Or.inl rfl))) (fun _ _ _ _ _ => pts_nil) (fun _ _ _ _ _ => (pv 2))) pa_nil)))), fun ds d ⟨n, h1, hn, h2⟩ B => ?_⟩
  subst h1 h2
  try dsimp only [cxOf, Cx.nox, Cx.wish]
  change Run K B _ [.im (.int n), .no, .no] _
  have hmem : ∀ a ∈ dnI (n - 1) (n - 1 - 0).toNat, 0 ≤ a ∧ a ≤ 5 := fun a ha => by
    obtain ⟨i, hi, rfl⟩ := List.mem_map.mp ha
    have := List.mem_range.mp hi
    omega
  refine ret_R (EvR.to (ev_cbR (eas_cons (EvF.r (ef_lc2 (dnI (n - 1) (n - 1 - 0).toNat) .int (fun x => [(1, .int x)]) (fun a => rgI 1 (a + 1 - 1).toNat) (fun _ => .int) (fun _ x => [(2, .int x)]) (fun _ _ => true) (fun _ k => .int k) (it_rng3 (hi := n - 1) (lo := 0) (by walk_at "ev") (by omega)) (fun _ _ => tg_name) (fun _ _ p hp => by
      rw [List.mem_singleton.mp hp]; simp) (fun a ha => itm_rng2 (lo := 1) (n := a + 1) (by walk_at "ev") (by have := hmem a ha; omega)) (fun _ _ _ _ => tg_name) (fun _ _ _ _ p hp => by
      rw [List.mem_singleton.mp hp]; simp) (fun _ _ _ _ => fun σ H E Q q => q H (Evl.Ex.refl H)) (fun _ _ _ _ _ => em_R rfl (by walk_at "ev")) (half_len hn) (fun a ha => by rw [rgI_length]; have := hmem a ha; omega))) eas_nil) rc_tupL) ?_)
  show PyData.tuple _ = .tuple ((halfF n).map .int)
  rw [halfF, List.map_flatMap]
  simp only [map_if]

end
end K69

set_option Elab.async false
set_option linter.all false
set_option maxRecDepth 100000
set_option maxHeartbeats 8000000
namespace K69
open PySem PySem.Spec PyProof.Rows L2 KW BR
local macro_rules | `(tactic| walk_at "ev") => `(tactic| repeat' (first
  | with_reducible exact ev_int | with_reducible exact ev_str | with_reducible exact ev_bool | with_reducible exact ev_none
  | ((with_reducible apply ev_var); exact rfl)
  | with_reducible exact rv_add | with_reducible exact rv_sub | with_reducible exact rv_lt | with_reducible exact rv_le | with_reducible exact rv_gt | with_reducible exact rv_ge
  | with_reducible exact rv_eqI | with_reducible exact rv_neI | with_reducible exact rv_eqB | with_reducible exact rv_neB | with_reducible exact rv_eqT | with_reducible exact rv_neT | with_reducible exact rv_eqLI | with_reducible exact rv_neLI
  | with_reducible exact rv_isB | with_reducible exact rv_notB | with_reducible exact rv_inLI | with_reducible exact rv_inTI | with_reducible exact rv_niLI | with_reducible exact rv_niTI
  | ((with_reducible apply rv_eqS) <;> decide +kernel) | ((with_reducible apply rv_neS) <;> decide +kernel)
  | with_reducible apply rv_mul | with_reducible apply rv_mod | with_reducible apply rv_fdiv | with_reducible apply rv_pow | with_reducible apply rv_ixTI | with_reducible apply rv_ixLI | with_reducible apply rv_ixT | with_reducible apply rv_ixL | with_reducible apply rv_addT
  | with_reducible exact ru_neg
  | with_reducible exact rc_abs | with_reducible exact rc_max | with_reducible exact rc_min | with_reducible exact rc_minT | with_reducible exact rc_intI | with_reducible exact rc_intB | with_reducible exact rc_lenTI | with_reducible exact rc_lenLI | with_reducible exact rc_lenT | with_reducible exact rc_lenL | with_reducible exact rc_tupL | with_reducible exact rc_tupT | with_reducible exact rc_sum | with_reducible exact rc_all
  | with_reducible apply ev_opR
  | with_reducible apply ev_isiR
  | with_reducible exact isi_int | with_reducible exact isi_int_bool | with_reducible exact isi_tup | with_reducible exact isi_str
  | with_reducible apply ev_cbR
  | with_reducible apply KW.ev_un
  | with_reducible apply ev_tupR
  | ((with_reducible show okT _ = true); exact rfl)
  | with_reducible apply ev_revD
  | with_reducible exact RevD.lst _ | with_reducible exact RevD.tup _
  | with_reducible apply ev_slD
  | with_reducible exact SlD.lst _ | with_reducible exact SlD.tup _
  | with_reducible apply ef_lstR
  | with_reducible apply KW.ef_call
  | with_reducible apply KW.ef_addX_L
  | with_reducible apply KW.ef_listRg1 | with_reducible apply KW.ev_tupRg1 | with_reducible apply KW.ev_tupRg2
  | with_reducible apply ep_some
  | with_reducible exact ep_none
  | with_reducible apply KW.eb_test
  | with_reducible apply KW.eb_B
  | with_reducible apply KW.eb_not
  | with_reducible apply KW.ev_not
  | with_reducible exact eas_nil
  | with_reducible apply eas_cons
  | with_reducible apply KW.eb_and
  | with_reducible apply KW.eb_or
  | with_reducible apply KW.ev_and
  | with_reducible apply KW.ev_or
  | with_reducible apply KW.ev_chain
  | with_reducible apply KW.ev_call | with_reducible apply KW.ev_callF
  | walk_at "fr"
  | with_reducible refine fun (_ : _ = true) => ?_
  | with_reducible refine fun (_ : _ = false) => ?_))
local macro_rules | `(tactic| walk_at "sd") => `(tactic| first
  | assumption | omega | exact rfl | exact noL_tI _ | exact noLs_ints _ | exact Nat.le_of_ble_eq_true rfl
  | (refine Or.inl ⟨?_, ?_⟩ <;> omega) | (refine Or.inr ⟨?_, ?_⟩ <;> omega) | (refine And.intro ?_ ?_ <;> omega) | exact ⟨by omega, by omega, by decide⟩
  | exact ⟨_, _, rfl, rfl⟩)
local macro_rules | `(tactic| walk_at "set") => `(tactic| (apply run_seq; apply run_setR; (focus walk_at "ev"); all_goals (try walk_at "sd"); try dsimp only [List.set]))
local macro_rules | `(tactic| walk_at "setF") => `(tactic| (apply run_seq; apply run_setF; (focus walk_at "ev"); all_goals (try walk_at "sd"); try dsimp only [List.set]))
local macro_rules | `(tactic| walk_at "if") => `(tactic| (apply run_seq; apply run_if; (focus walk_at "ev"); all_goals (try walk_at "sd")))
local macro_rules | `(tactic| walk_at "if1") => `(tactic| (apply run_if; (focus walk_at "ev"); all_goals (try walk_at "sd")))
local macro_rules | `(tactic| walk_at "ret") => `(tactic| (apply ret_R; apply EvR.to; (focus walk_at "ev"); all_goals (try walk_at "sd")))
local macro_rules | `(tactic| walk_at "app") => `(tactic| (apply run_app; exact rfl; (focus walk_at "ev"); all_goals (try walk_at "sd"); try dsimp only [List.set]))
local macro_rules | `(tactic| walk_at "fr") => `(tactic| first | exact ⟨_, _, rfl, by omega, rfl⟩ | exact ⟨_, rfl, rfl⟩ | exact ⟨_, _, rfl, rfl⟩ | exact ⟨_, _, _, rfl, rfl⟩)

section
variable {P : Program} {w : World} {K : PySem.W.Frag} {mg : Str → Option Value} {base : Heap}
/-! begins -/
def frBegins : List D → D → Prop := fun ds d => ∃ xs : List Int, ds = [tI xs] ∧ xs.length ≤ 1000 ∧ d = tI (begF xs)
theorem ok_begins {f : Addr} {fd : FuncData} (F : Fun K "begins" "begins" s_begins f fd) (m : Bl mg) : FnOk P w K mg base CX0 1 f fd ["order"] (spR K frBegins) := by
  refine def_R F sc_begins frBegins (fun ds d ⟨_, h, _⟩ => by rw [h]; rfl) fun cdv A outer s H E hr => ⟨_, (pss_one (ps_ret (pe_callTy (tupOf_K K rfl) (by rfl) m.tuple (by decide +kernel) (pa_cons (pe_lc (own := [("k", 1)]) rfl sc_begins.nd (pi_range1 (by rfl) m.range (pa_cons (pe_op op_sub (pe_callB (len_K K rfl) (by rfl) m.len PySem.boot_len (pa_cons (pv 0) pa_nil)) pe_int) pa_nil)) (blkOk_by (N := ["order", "k"]) (sc := defScope s_begins) (by decide +kernel)) (fun _ _ _ _ _ => (pg_name (i := 1) sc_begins.nd rfl (Or.inl rfl))) (fun _ _ _ _ _ => (pts_one (pt_cmpR op_gt (pe_ix (ix_K K rfl) (pv 0) (pv 1) (fun _ _ => rfl)) (pe_ix (ix_K K rfl) (pv 0) (pe_op (op_addK K rfl) (pv 1) pe_int) (fun _ _ => rfl)) (nomark _)))) (fun _ _ _ _ _ => (pe_op (op_addK K rfl) (pv 1) pe_int))) pa_nil)))), fun ds d ⟨xs, h1, hl, h2⟩ B => ?_⟩
  subst h1 h2
  try dsimp only [cxOf, Cx.nox, Cx.wish]
  change Run K B _ [.im (tI xs), .no] _
  refine ret_R (EvR.to (ev_cbR (ds := [.list ((fallsF xs).map fun k => .int (k + 1))]) (eas_cons (EvF.r (ef_lc (rgI 0 ((xs.length : Int) - 1).toNat) .int (fun x => [(1, .int x)]) (fun k => decide (xs.getD (k + 1).toNat 0 < xs.getD k.toNat 0)) (fun k => .int (k + 1)) (it_rng1 (n := (xs.length : Int) - 1) (by walk_at "ev") (by omega)) (fun _ _ => tg_name) (fun _ _ p hp => by
      rw [List.mem_singleton.mp hp]; simp) (fun a ha => ?_) (fun a ha _ => em_R rfl (by walk_at "ev")) (by rw [rgI_length]; omega))) eas_nil) rc_tupL) ?_)
  · have := mem_rgI.mp ha
    walk_at "ev" <;> omega
  · show PyData.tuple _ = .tuple ((begF xs).map .int)
    rw [begF, List.map_map]
    rfl
/-! ends -/
def frEnds : List D → D → Prop := fun ds d => ∃ (n : Nat) (xs : List Int), ds = [tI xs] ∧ (IsP n xs ∧ n ≤ 1000) ∧ d = tI (endF xs)
theorem ok_ends {f : Addr} {fd : FuncData} (F : Fun K "ends" "ends" s_ends f fd) (m : Bl mg) : FnOk P w K mg base CX0 1 f fd ["order"] (spR K frEnds) := by
  refine def_R F sc_ends frEnds (fun ds d ⟨_, _, h, _⟩ => by rw [h]; rfl) fun cdv A outer s H E hr => ⟨_, (pss_cons (ps_set (i := 1) sc_ends.nd rfl (.inr rfl) (pe_lc (own := [("k", 2)]) rfl sc_ends.nd (pi_range1 (by rfl) m.range (pa_cons (pe_callB (len_K K rfl) (by rfl) m.len PySem.boot_len (pa_cons (pv 0) pa_nil)) pa_nil)) (blkOk_by (N := ["order", "places", "k"]) (sc := defScope s_ends) (by decide +kernel)) (fun _ _ _ _ _ => (pg_name (i := 2) sc_ends.nd rfl (Or.inl rfl))) (fun _ _ _ _ _ => pts_nil) (fun _ _ _ _ _ => (pe_bmT PySem.F.plainAttrs_tuple PySem.F.slot_tuple_index PySem.F.type_tuple_index (mtTix_K K rfl) (pv 0) (pa_cons (pv 2) pa_nil)))))
        (pss_one (ps_ret (pe_callTy (tupOf_K K rfl) (by rfl) m.tuple (by decide +kernel) (pa_cons (pe_lc (own := [("k", 2)]) rfl sc_ends.nd (pi_range1 (by rfl) m.range (pa_cons (pe_op op_sub (pe_callB (len_K K rfl) (by rfl) m.len PySem.boot_len (pa_cons (pv 0) pa_nil)) pe_int) pa_nil)) (blkOk_by (N := ["order", "places", "k"]) (sc := defScope s_ends) (by decide +kernel)) (fun _ _ _ _ _ => (pg_name (i := 2) sc_ends.nd rfl (Or.inl rfl))) (fun _ _ _ _ _ => (pts_one (pt_cmpR op_gt (pe_ix (ix_K K rfl) (pv 1) (pv 2) (fun _ _ => rfl)) (pe_ix (ix_K K rfl) (pv 1) (pe_op (op_addK K rfl) (pv 2) pe_int) (fun _ _ => rfl)) (nomark _)))) (fun _ _ _ _ _ => (pe_op (op_addK K rfl) (pv 2) pe_int))) pa_nil))))), fun ds d ⟨n, xs, h1, ⟨hp, hn⟩, h2⟩ B => ?_⟩
  subst h1 h2
  try dsimp only [cxOf, Cx.nox, Cx.wish]
  have hl := hp.1
  change Run K B _ [.im (tI xs), .no, .no] _
  refine run_seq (run_setFi (ds := (placF xs).map .int) (EvF.to (ef_lc (rgI 0 xs.length) .int (fun k => [(2, .int k)]) (fun _ => true) (fun k => .int (idxI xs k)) (it_rng1 (n := xs.length) (by walk_at "ev") (by omega)) (fun _ _ => tg_name) (fun _ _ p hp => by
      rw [List.mem_singleton.mp hp]; simp) (fun a ha => fun σ H E Q q => q H (Evl.Ex.refl H)) (fun a ha _ => em_R rfl (ev_tix (ns := xs) (k := a) (ev_var rfl) (ev_var rfl) (idx_get ?_) (idx_ne ?_))) (by rw [rgI_length]; omega)) ?_) (noLs_ints _) (Nat.le_of_ble_eq_true rfl) ?_)
  · have := mem_rgI.mp ha
    exact hp.2 a (by omega) (by omega)
  · have := mem_rgI.mp ha
    exact hp.2 a (by omega) (by omega)
  · rw [map_if, placF, List.map_map]
    rfl
  dsimp only [List.set]
  have hpl : (placF xs).length = xs.length := by rw [placF, List.length_map, rgI_length]
  refine ret_R (EvR.to (ev_cbR (ds := [.list (((rgI 0 ((xs.length : Int) - 1).toNat).filter fun k => decide ((placF xs).getD (k + 1).toNat 0 < (placF xs).getD k.toNat 0)).map fun k => .int (k + 1))]) (eas_cons (EvF.r (ef_lc (rgI 0 ((xs.length : Int) - 1).toNat) .int (fun x => [(2, .int x)]) (fun k => decide ((placF xs).getD (k + 1).toNat 0 < (placF xs).getD k.toNat 0)) (fun k => .int (k + 1)) (it_rng1 (n := (xs.length : Int) - 1) (by walk_at "ev") (by omega)) (fun _ _ => tg_name) (fun _ _ p hp => by
      rw [List.mem_singleton.mp hp]; simp) (fun a ha => ?_) (fun a ha _ => em_R rfl (by walk_at "ev")) (by rw [rgI_length]; omega))) eas_nil) rc_tupL) ?_)
  · have := mem_rgI.mp ha
    walk_at "ev" <;> omega
  · show PyData.tuple _ = .tuple ((endF xs).map .int)
    rw [endF, List.map_map]
    rfl
/-! with_first, with_last, flipped -/
def frWf : List D → D → Prop := fun ds d => ∃ (xs : List Int) (k : Int), ds = [tI xs, .int k] ∧ (1 ≤ k ∧ k < xs.length ∧ xs.length ≤ 1000) ∧ d = tI (wfF xs k)
theorem ok_with_first {f : Addr} {fd : FuncData} (F : Fun K "with_first" "with_first" s_with_first f fd) (m : Bl mg) : FnOk P w K mg base CX0 1 f fd ["order", "k"] (spR K frWf) := by
  refine def_R F sc_with_first frWf (fun ds d ⟨_, _, h, _⟩ => by rw [h]; rfl) fun cdv A outer s H E hr => ⟨_, (pss_cons (ps_set (i := 2) sc_with_first.nd rfl (.inl rfl) (pe_callTy (listOf_K K rfl) (by rfl) m.list (by decide +kernel) (pa_cons (pv 0) pa_nil)))
        (pss_cons (ps_asg (KW.pe_tup (pa_cons (pe_ix (ix_K K rfl) (pv 2) (pv 1) (fun _ _ => rfl)) (pa_cons (pe_ix (ix_K K rfl) (pv 2) (pe_op op_sub (pv 1) pe_int) (fun _ _ => rfl)) pa_nil))) (tup_K K rfl rfl (pgs_cons (pg_sub (pv 2) (pe_op op_sub (pv 1) pe_int) set_list) (pgs_cons (pg_sub (pv 2) (pv 1) set_list) pgs_nil))))
        (pss_one (ps_ret (pe_callTy (tupOf_K K rfl) (by rfl) m.tuple (by decide +kernel) (pa_cons (pv 2) pa_nil)))))), fun ds d ⟨xs, k, h1, ⟨h3, h4, h5⟩, h2⟩ B => ?_⟩
  subst h1 h2
  try dsimp only [cxOf, Cx.nox, Cx.wish]
  change Run K B _ [.im (tI xs), .im (.int k), .no] _
  refine run_seq (run_setF (ds := xs.map .int) (ef_listT (ev_var rfl)) (noLs_ints _) (Nat.le_of_ble_eq_true rfl) ?_)
  dsimp only [List.set]
  apply run_seq
  refine run_swap (i := 2) (ds := xs.map .int) (d1 := .int (xs.getD k.toNat 0)) (d2 := .int (xs.getD (k - 1).toNat 0)) (k1 := k - 1) (k2 := k) (j1 := (k - 1).toNat) (j2 := k.toNat) rfl ?_ ?_ rfl rfl ?_ (ixN_ok (by omega) (by rw [List.length_map]; omega)) ?_ (ixN_ok (by omega) (by rw [List.length_map]; omega)) ?_
  · walk_at "ev" <;> omega
  · walk_at "ev" <;> omega
  · walk_at "ev"
  · walk_at "ev"
  dsimp only [List.set]
  rw [set_ints, set_ints]
  refine ret_R (EvR.to (ev_cbR (eas_cons (ev_var rfl) eas_nil) rc_tupL) ?_)
  rw [wfF, swapI, show (k - 1).toNat + 1 = k.toNat by omega]
def frWl : List D → D → Prop := fun ds d => ∃ (xs : List Int) (k : Int), ds = [tI xs, .int k] ∧ xs.length ≤ 1000 ∧ d = tI (wlF xs k)
theorem ok_with_last {f : Addr} {fd : FuncData} (F : Fun K "with_last" "with_last" s_with_last f fd) (m : Bl mg) : FnOk P w K mg base CX0 1 f fd ["order", "k"] (spR K frWl) := by
  refine def_R F sc_with_last frWl (fun ds d ⟨_, _, h, _⟩ => by rw [h]; rfl) fun cdv A outer s H E hr => ⟨_, (pss_one (ps_ret (pe_callTy (tupOf_K K rfl) (by rfl) m.tuple (by decide +kernel) (pa_cons (pe_lc (own := [("x", 2)]) rfl sc_with_last.nd (seq_K K rfl (pv 0)) (blkOk_by (N := ["order", "k", "x"]) (sc := defScope s_with_last) (by decide +kernel)) (fun _ _ _ _ _ => (pg_name (i := 2) sc_with_last.nd rfl (Or.inl rfl))) (fun _ _ _ _ _ => pts_nil) (fun _ _ _ _ _ => (pe_ifExp (pt_cmpR (op_eqK K rfl hr.units) (pv 2) (pe_op op_sub (pv 1) pe_int) (nomark _)) (pv 1) (pe_ifExp (pt_cmpR (op_eqK K rfl hr.units) (pv 2) (pv 1) (nomark _)) (pe_op op_sub (pv 1) pe_int) (pv 2))))) pa_nil)))), fun ds d ⟨xs, k, h1, h5, h2⟩ B => ?_⟩
  subst h1 h2
  try dsimp only [cxOf, Cx.nox, Cx.wish]
  change Run K B _ [.im (tI xs), .im (.int k), .no] _
  refine ret_R (EvR.to (ev_cbR (ds := [.list ((xs.filter fun _ => true).map fun x => .int (if x = k - 1 then k else if x = k then k - 1 else x))]) (eas_cons (EvF.r (ef_lc xs .int (fun x => [(2, .int x)]) (fun _ => true) (fun x => .int (if x = k - 1 then k else if x = k then k - 1 else x)) (it_seqT (ev_var rfl)) (fun _ _ => tg_name) (fun _ _ p hp => by
      rw [List.mem_singleton.mp hp]; simp) (fun a ha => fun σ H E Q q => q H (Evl.Ex.refl H)) (fun a ha _ => em_R rfl ?_) (by omega))) eas_nil) rc_tupL) ?_)
  · refine ev_if (b := decide (a = k - 1)) (by walk_at "ev") (fun h => ?_) (fun h => ?_)
    · rw [if_pos (of_decide_eq_true h)]
      walk_at "ev"
    · rw [if_neg (of_decide_eq_false h)]
      refine ev_if (b := decide (a = k)) (by walk_at "ev") (fun h => ?_) (fun h => ?_)
      · rw [if_pos (of_decide_eq_true h)]
        walk_at "ev"
      · rw [if_neg (of_decide_eq_false h)]
        walk_at "ev"
  · rw [map_if]
    show PyData.tuple _ = .tuple ((wlF xs k).map .int)
    rw [wlF, List.map_map]
    rfl
def frFl : List D → D → Prop := fun ds d => ∃ (xs : List Int), ds = [tI xs] ∧ xs.length ≤ 1000 ∧ d = tI (flF xs)
theorem ok_flipped {f : Addr} {fd : FuncData} (F : Fun K "flipped" "flipped" s_flipped f fd) (m : Bl mg) : FnOk P w K mg base CX0 1 f fd ["order"] (spR K frFl) := by
  refine def_R F sc_flipped frFl (fun ds d ⟨_, h, _⟩ => by rw [h]; rfl) fun cdv A outer s H E hr => ⟨_, (pss_cons (ps_set (i := 1) sc_flipped.nd rfl (.inr rfl) (pe_callB (len_K K rfl) (by rfl) m.len PySem.boot_len (pa_cons (pv 0) pa_nil)))
        (pss_one (ps_ret (pe_callTy (tupOf_K K rfl) (by rfl) m.tuple (by decide +kernel) (pa_cons (pe_lc (own := [("k", 2)]) rfl sc_flipped.nd (pi_range1 (by rfl) m.range (pa_cons (pv 1) pa_nil)) (blkOk_by (N := ["order", "n", "k"]) (sc := defScope s_flipped) (by decide +kernel)) (fun _ _ _ _ _ => (pg_name (i := 2) sc_flipped.nd rfl (Or.inl rfl))) (fun _ _ _ _ _ => pts_nil) (fun _ _ _ _ _ => (pe_op op_sub (pe_op op_sub (pv 1) pe_int) (pe_ix (ix_K K rfl) (pv 0) (pe_op op_sub (pe_op op_sub (pv 1) pe_int) (pv 2)) (fun _ _ => rfl))))) pa_nil))))), fun ds d ⟨xs, h1, h5, h2⟩ B => ?_⟩
  subst h1 h2
  try dsimp only [cxOf, Cx.nox, Cx.wish]
  change Run K B _ [.im (tI xs), .no, .no] _
  refine run_seq (run_setR (d := .int xs.length) (by walk_at "ev") rfl (Nat.le_of_ble_eq_true rfl) ?_)
  dsimp only [List.set]
  refine ret_R (EvR.to (ev_cbR (ds := [.list (((rgI 0 xs.length).filter fun _ => true).map fun k => .int ((xs.length : Int) - 1 - xs.getD ((xs.length : Int) - 1 - k).toNat 0))]) (eas_cons (EvF.r (ef_lc (rgI 0 xs.length) .int (fun x => [(2, .int x)]) (fun _ => true) (fun k => .int ((xs.length : Int) - 1 - xs.getD ((xs.length : Int) - 1 - k).toNat 0)) (it_rng1 (n := xs.length) (by walk_at "ev") (by omega)) (fun _ _ => tg_name) (fun _ _ p hp => by
      rw [List.mem_singleton.mp hp]; simp) (fun a ha => fun σ H E Q q => q H (Evl.Ex.refl H)) (fun a ha _ => em_R rfl ?_) (by rw [rgI_length]; omega))) eas_nil) rc_tupL) ?_)
  · have := mem_rgI.mp ha
    walk_at "ev" <;> omega
  · rw [map_if]
    show PyData.tuple _ = .tuple ((flF xs).map .int)
    rw [flF, List.map_map]
    rfl

end
end K69

set_option Elab.async false
set_option linter.all false
set_option maxRecDepth 100000
set_option maxHeartbeats 8000000
namespace K69
open PySem PySem.Spec PyProof.Rows L2 KW BR
local macro_rules | `(tactic| walk_at "ev") => `(tactic| repeat' (first
  | with_reducible exact ev_int | with_reducible exact ev_str | with_reducible exact ev_bool | with_reducible exact ev_none
  | ((with_reducible apply ev_var); exact rfl)
  | with_reducible exact rv_add | with_reducible exact rv_sub | with_reducible exact rv_lt | with_reducible exact rv_le | with_reducible exact rv_gt | with_reducible exact rv_ge
  | with_reducible exact rv_eqI | with_reducible exact rv_neI | with_reducible exact rv_eqB | with_reducible exact rv_neB | with_reducible exact rv_eqT | with_reducible exact rv_neT | with_reducible exact rv_eqLI | with_reducible exact rv_neLI
  | with_reducible exact rv_isB | with_reducible exact rv_notB | with_reducible exact rv_inLI | with_reducible exact rv_inTI | with_reducible exact rv_niLI | with_reducible exact rv_niTI
  | ((with_reducible apply rv_eqS) <;> decide +kernel) | ((with_reducible apply rv_neS) <;> decide +kernel)
  | with_reducible apply rv_mul | with_reducible apply rv_mod | with_reducible apply rv_fdiv | with_reducible apply rv_pow | with_reducible apply rv_ixTI | with_reducible apply rv_ixLI | with_reducible apply rv_ixT | with_reducible apply rv_ixL | with_reducible apply rv_addT
  | with_reducible exact ru_neg
  | with_reducible exact rc_abs | with_reducible exact rc_max | with_reducible exact rc_min | with_reducible exact rc_minT | with_reducible exact rc_intI | with_reducible exact rc_intB | with_reducible exact rc_lenTI | with_reducible exact rc_lenLI | with_reducible exact rc_lenT | with_reducible exact rc_lenL | with_reducible exact rc_tupL | with_reducible exact rc_tupT | with_reducible exact rc_sum | with_reducible exact rc_all
  | with_reducible apply ev_opR
  | with_reducible apply ev_isiR
  | with_reducible exact isi_int | with_reducible exact isi_int_bool | with_reducible exact isi_tup | with_reducible exact isi_str
  | with_reducible apply ev_cbR
  | with_reducible apply KW.ev_un
  | with_reducible apply ev_tupR
  | ((with_reducible show okT _ = true); exact rfl)
  | with_reducible apply ev_revD
  | with_reducible exact RevD.lst _ | with_reducible exact RevD.tup _
  | with_reducible apply ev_slD
  | with_reducible exact SlD.lst _ | with_reducible exact SlD.tup _
  | with_reducible apply ef_lstR
  | with_reducible apply KW.ef_call
  | with_reducible apply KW.ef_addX_L
  | with_reducible apply KW.ef_listRg1 | with_reducible apply KW.ev_tupRg1 | with_reducible apply KW.ev_tupRg2
  | with_reducible apply ep_some
  | with_reducible exact ep_none
  | with_reducible apply KW.eb_test
  | with_reducible apply KW.eb_B
  | with_reducible apply KW.eb_not
  | with_reducible apply KW.ev_not
  | with_reducible exact eas_nil
  | with_reducible apply eas_cons
  | with_reducible apply KW.eb_and
  | with_reducible apply KW.eb_or
  | with_reducible apply KW.ev_and
  | with_reducible apply KW.ev_or
  | with_reducible apply KW.ev_chain
  | with_reducible apply KW.ev_call | with_reducible apply KW.ev_callF
  | walk_at "fr"
  | with_reducible refine fun (_ : _ = true) => ?_
  | with_reducible refine fun (_ : _ = false) => ?_))
local macro_rules | `(tactic| walk_at "sd") => `(tactic| first
  | assumption | omega | exact rfl | exact noL_tI _ | exact noLs_ints _ | exact Nat.le_of_ble_eq_true rfl
  | (refine Or.inl ⟨?_, ?_⟩ <;> omega) | (refine Or.inr ⟨?_, ?_⟩ <;> omega) | (refine And.intro ?_ ?_ <;> omega) | exact ⟨by omega, by omega, by decide⟩
  | exact ⟨_, _, rfl, rfl⟩)
local macro_rules | `(tactic| walk_at "set") => `(tactic| (apply run_seq; apply run_setR; (focus walk_at "ev"); all_goals (try walk_at "sd"); try dsimp only [List.set]))
local macro_rules | `(tactic| walk_at "setF") => `(tactic| (apply run_seq; apply run_setF; (focus walk_at "ev"); all_goals (try walk_at "sd"); try dsimp only [List.set]))
local macro_rules | `(tactic| walk_at "if") => `(tactic| (apply run_seq; apply run_if; (focus walk_at "ev"); all_goals (try walk_at "sd")))
local macro_rules | `(tactic| walk_at "if1") => `(tactic| (apply run_if; (focus walk_at "ev"); all_goals (try walk_at "sd")))
local macro_rules | `(tactic| walk_at "ret") => `(tactic| (apply ret_R; apply EvR.to; (focus walk_at "ev"); all_goals (try walk_at "sd")))
local macro_rules | `(tactic| walk_at "app") => `(tactic| (apply run_app; exact rfl; (focus walk_at "ev"); all_goals (try walk_at "sd"); try dsimp only [List.set]))
local macro_rules | `(tactic| walk_at "fr") => `(tactic| first | exact ⟨_, _, rfl, by omega, rfl⟩ | exact ⟨_, rfl, rfl⟩ | exact ⟨_, _, rfl, rfl⟩ | exact ⟨_, _, _, rfl, rfl⟩)

section
variable {P : Program} {w : World} {K : PySem.W.Frag} {mg : Str → Option Value} {base : Heap}
/-! settled -/
def frSettled : List D → D → Prop := fun ds d => ∃ (n : Nat) (one two : List Int) (r : List Int × List Int), ds = [tI one, tI two] ∧ (IsP n one ∧ IsP n two ∧ n ≤ 1000 ∧ stR 64 one two = some r) ∧ d = .tuple [tI r.1, tI r.2]
theorem ok_settled {f : Addr} {fd : FuncData} (F : Fun K "settled" "settled" s_settled f fd) (m : Bl mg) (d_begins : DefOk P w K mg base "begins" ["order"] 1 (spR K frBegins)) (d_ends : DefOk P w K mg base "ends" ["order"] 1 (spR K frEnds))
    (d_with_last : DefOk P w K mg base "with_last" ["order", "k"] 1 (spR K frWl)) (d_with_first : DefOk P w K mg base "with_first" ["order", "k"] 1 (spR K frWf)) : FnOk P w K mg base CX0 2 f fd ["one", "two"] (spR K frSettled) := by
  refine def_R F sc_settled frSettled (fun ds d ⟨_, _, _, _, h, _⟩ => by rw [h]; rfl) fun cdv A outer s H E hr => ?_
  have hu5 : (A.deeper (envOfC "settled" (defScope s_settled) s.heap.objs.size f cdv)).units + 65 < cLine := by
    have := hr.un
    omega
  refine ⟨_, (pss_one (ps_while PassesOwn.never (pt_val pe_bl) (pss_cons (ps_setLc (own := [("k", 3)]) (i := 2) rfl sc_settled.nd rfl rfl (sw_true rfl rfl rfl (by decide +kernel)) (seq_K K rfl (pe_callD d_begins (hr.mono (by decide)) (by rfl) (pa_cons (pv 1) pa_nil))) (blkOk_by (N := ["one", "two", "more", "k"]) (sc := defScope s_settled) (by decide +kernel)) (fun _ _ _ _ _ => (pg_name (i := 3) sc_settled.nd rfl (Or.inl rfl))) (fun _ _ _ _ _ => (pts_one (pt_cmpR (op_niK K rfl hu5) (pv 3) (pe_callD d_ends (hr.mono (by decide)) (by rfl) (pa_cons (pv 0) pa_nil)) (by rfl)))) (fun _ _ _ _ _ => (pv 3)))
        (pss_cons (ps_if (pt_cmpR (op_eqK K rfl hr.units) (pe_callB (len_K K rfl) (by rfl) m.len PySem.boot_len (pa_cons (pv 2) pa_nil)) pe_int (nomark _)) (pss_one (ps_ret (KW.pe_tup (pa_cons (pv 0) (pa_cons (pv 1) pa_nil))))) pss_nil)
        (pss_one (ps_asg (KW.pe_tup (pa_cons (pe_callD d_with_last (hr.mono (by decide)) (by rfl) (pa_cons (pv 0) (pa_cons (pe_ix (ix_K K rfl) (pv 2) pe_int (fun _ _ => rfl)) pa_nil))) (pa_cons (pe_callD d_with_first (hr.mono (by decide)) (by rfl) (pa_cons (pv 1) (pa_cons (pe_ix (ix_K K rfl) (pv 2) pe_int (fun _ _ => rfl)) pa_nil))) pa_nil))) (tup_K K rfl rfl (pgs_cons (pg_name (i := 0) sc_settled.nd rfl (Or.inr rfl)) (pgs_cons (pg_name (i := 1) sc_settled.nd rfl (Or.inl rfl)) pgs_nil))))))))), fun ds d ⟨n, one, two, r, h1, ⟨p1, p2, hn, he⟩, h2⟩ B => ?_⟩
  subst h1 h2
  try dsimp only [cxOf, Cx.nox, Cx.wish]
  change Run K B _ [.im (tI one), .im (tI two), .no, .no] _
  refine run_while (fun m S' => ∃ (a b : List Int) (e2 : Sl), S' = [.im (tI a), .im (tI b), e2, .no] ∧ IsP n a ∧ IsP n b ∧ stR m a b = some r) 64 ⟨one, two, _, rfl, p1, p2, he⟩ ?_
  rintro m S' ⟨a, b, e2, rfl, pa, pb, hs⟩
  refine ⟨true, by walk_at "ev", fun _ => ?_, fun z => by cases z⟩
  obtain ⟨g, rfl⟩ : ∃ g, m = g + 1 := by
    cases m with
    | zero => cases hs
    | succ g => exact ⟨g, rfl⟩
  have la := pa.1
  have lb := pb.1
  have lbeg : (begF b).length ≤ 2000 := by
    rw [begF, List.length_map]
    refine Nat.le_trans (List.length_filter_le _ _) ?_
    rw [rgI_length]
    omega
  refine run_seq (run_setFi (ds := ((begF b).filter fun k => !decide (k ∈ endF a)).map .int) (ef_lc (begF b) .int (fun x => [(3, .int x)]) (fun k => !decide (k ∈ endF a)) .int (it_seqT (ds := (begF b).map .int) (ev_call (by walk_at "ev") ⟨b, rfl, by omega, rfl⟩)) (fun _ _ => tg_name) (fun _ _ p hp => by
      rw [List.mem_singleton.mp hp]; simp) (fun k hk => KW.eb_test (ev_opR (ev_var rfl) (ev_call (by walk_at "ev") ⟨n, a, rfl, ⟨pa, hn⟩, rfl⟩) rv_niTI)) (fun a ha _ => em_R rfl (by walk_at "ev")) (by omega)) (noLs_ints _) (Nat.le_of_ble_eq_true rfl) ?_)
  dsimp only [List.set]
  have hmore := hs
  unfold stR at hmore
  have hmem : ∀ k ∈ (begF b).filter fun k => !decide (k ∈ endF a), 1 ≤ k ∧ k < (n : Int) := fun k hk => by
    have := mem_beg (List.mem_filter.mp hk).1
    rw [lb] at this
    exact this
  generalize ((begF b).filter fun k => !decide (k ∈ endF a)) = more at hmore hmem ⊢
  refine run_seq (run_if (b := decide ((more.length : Int) = 0)) (by walk_at "ev") (fun h => ?_) fun h => run_nx ?_)
  · have h := of_decide_eq_true h
    have : more = [] := List.length_eq_zero_iff.mp (by omega)
    subst this
    cases hmore
    walk_at "ret"
  · have h := of_decide_eq_false h
    match more, h, hmore, hmem with
    | [], h, _, _ => exact absurd rfl h
    | k :: t, _, hmore, hmem =>
      have hk := hmem k (by simp)
      change Run K B _ [.im (tI a), .im (tI b), .im (.list ((k :: t).map .int)), .no] _
      refine run_unpack (d := .tuple [tI (wlF a k), tI (wfF b k)]) (js := [(0, tI (wlF a k)), (1, tI (wfF b k))]) (ev_tupR (eas_cons (ev_call (ds := [tI a, .int k]) (eas_cons (ev_var rfl) (eas_cons (ev_opR (ev_var rfl) ev_int (rv_ixL (atI_nat (j := 0) rfl))) eas_nil)) ⟨a, k, rfl, by omega, rfl⟩)
        (eas_cons (ev_call (ds := [tI b, .int k]) (eas_cons (ev_var rfl) (eas_cons (ev_opR (ev_var rfl) ev_int (rv_ixL (atI_nat (j := 0) rfl))) eas_nil)) ⟨b, k, rfl, ⟨by omega, by omega, by omega⟩, rfl⟩) eas_nil)) rfl) (by simp only [noL, noLs, noLs_ints]; rfl) (tg_tup (tgl_cons tg_name (tgl_cons tg_name tgl_nil)) rfl) (fun p hp => by
        simp only [List.mem_cons, List.not_mem_nil, or_false] at hp
        rcases hp with rfl | rfl <;> exact Nat.le_of_ble_eq_true rfl) ?_
      exact ⟨g, by omega, _, _, _, rfl, isP_wl pa hk.1 hk.2, isP_wf pb hk.1 hk.2, hmore⟩
/-! pressed -/
def frPressed : List D → List D → Prop := fun ds es => ∃ (n : Nat) (l r : List (List Int)), ds = [.list (l.map tI)] ∧ ((∀ x ∈ l, IsP n x) ∧ n ≤ 1000 ∧ l.length ≤ 1000 ∧ prR 10000 l = some r) ∧ es = r.map tI
theorem set2_tIs (pre t : List (List Int)) (a b x y : List Int) : ((((pre ++ a :: b :: t).map tI).set pre.length (tI x)).set (pre.length + 1) (tI y)) = ((pre ++ [x]) ++ y :: t).map tI := by
  rw [← List.map_set, ← List.map_set]
  congr 1
  rw [List.set_append_right _ _ (Nat.le_refl _), Nat.sub_self, List.set_append_right _ _ (by omega), show pre.length + 1 - pre.length = 1 by omega, List.append_assoc]
  rfl
theorem ok_pressed {f : Addr} {fd : FuncData} (F : Fun K "pressed" "pressed" s_pressed f fd) (m : Bl mg) (d_settled : DefOk P w K mg base "settled" ["one", "two"] 2 (spR K frSettled)) : FnOk P w K mg base CX0 3 f fd ["rows"] (spF K frPressed) := by
  refine def_F F sc_pressed frPressed (fun ds d ⟨_, _, _, h, _⟩ => by rw [h]; rfl) fun cdv A outer s H E hr => ⟨_, (pss_cons (ps_set (i := 0) sc_pressed.nd rfl (.inl rfl) (pe_callTy (listOf_K K rfl) (by rfl) m.list (by decide +kernel) (pa_cons (pv 0) pa_nil)))
        (pss_one (ps_while PassesOwn.never (pt_val pe_bl) (pss_cons (ps_set (i := 1) sc_pressed.nd rfl (.inl rfl) (pe_callTy (listOf_K K rfl) (by rfl) m.list (by decide +kernel) (pa_cons (pv 0) pa_nil)))
        (pss_cons (ps_for PassesOwn.never rfl (pi_range1 (by rfl) m.range (pa_cons (pe_op op_sub (pe_callB (len_K K rfl) (by rfl) m.len PySem.boot_len (pa_cons (pv 0) pa_nil)) pe_int) pa_nil)) (pg_name (i := 2) sc_pressed.nd rfl (Or.inl rfl)) (pss_one (ps_asg (pe_callD d_settled (hr.mono (by decide)) (by rfl) (pa_cons (pe_ix (ix_K K rfl) (pv 0) (pv 2) (fun _ _ => rfl)) (pa_cons (pe_ix (ix_K K rfl) (pv 0) (pe_op (op_addK K rfl) (pv 2) pe_int) (fun _ _ => rfl)) pa_nil))) (tup_K K rfl rfl (pgs_cons (pg_sub (pv 0) (pv 2) set_list) (pgs_cons (pg_sub (pv 0) (pe_op (op_addK K rfl) (pv 2) pe_int) set_list) pgs_nil))))))
        (pss_cons (ps_setLc (own := [("row", 3)]) (i := 0) rfl sc_pressed.nd rfl rfl (sw_true rfl rfl rfl (by decide +kernel)) (seq_K K rfl (pv 0)) (blkOk_by (N := ["rows", "before", "k", "row"]) (sc := defScope s_pressed) (by decide +kernel)) (fun _ _ _ _ _ => (pg_name (i := 3) sc_pressed.nd rfl (Or.inl rfl))) (fun _ _ _ _ _ => (pts_one (pt_cmpR (op_neK K rfl hr.units) (pv 3) (KW.pe_tupRg rfl (by rfl) m.tuple (prg_1 (by rfl) m.range (pe_callB (len_K K rfl) (by rfl) m.len PySem.boot_len (pa_cons (pv 3) pa_nil)))) (nomark _)))) (fun _ _ _ _ _ => (pv 3)))
        (pss_one (ps_if (pt_cmpR (op_eqK K rfl hr.units) (pv 0) (pv 1) (nomark _)) (pss_one (ps_ret (pv 0))) pss_nil)))))))), fun ds d ⟨n, l, r, h1, ⟨pl, hn, hl, he⟩, h2⟩ B => ?_⟩
  subst h1 h2
  try dsimp only [cxOf, Cx.nox, Cx.wish]
  change Run K B _ [.im (.list (l.map tI)), .no, .no, .no] _
  refine run_seq (run_setF (ds := l.map tI) (ef_listL (ev_var rfl)) (noLs_tIs _) (Nat.le_of_ble_eq_true rfl) ?_)
  dsimp only [List.set]
  refine run_while (fun m S' => ∃ (l : List (List Int)) (e1 e2 : Sl), S' = [.ow (l.map tI), e1, e2, .no] ∧ (∀ x ∈ l, IsP n x) ∧ l.length ≤ 1000 ∧ prR m l = some r) 10000 ⟨l, _, _, rfl, pl, hl, he⟩ ?_
  clear pl hl he
  rintro m S' ⟨l, e1, e2, rfl, pl, hl, he⟩
  refine ⟨true, by walk_at "ev", fun _ => ?_, fun z => by cases z⟩
  obtain ⟨g, rfl⟩ : ∃ g, m = g + 1 := by
    cases m with
    | zero => cases he
    | succ g => exact ⟨g, rfl⟩
  unfold prR at he
  obtain ⟨rs, hrs⟩ : ∃ rs, passR l = some rs := by
    cases h : passR l with
    | none => rw [h] at he; cases he
    | some rs => exact ⟨rs, rfl⟩
  rw [hrs] at he
  refine run_seq (run_setFi (ds := l.map tI) (ef_listL (ev_var rfl)) (noLs_tIs _) (Nat.le_of_ble_eq_true rfl) ?_)
  dsimp only [List.set]
  refine run_seq (run_for (rgI 0 ((l.length : Int) - 1).toNat) .int (fun x => [(2, .int x)]) (its_rng1 (n := (l.length : Int) - 1) (eas_cons (ev_opR (d := .int (l.length : Int)) (EvR.to (ev_cbR (eas_cons (ev_var rfl) eas_nil) rc_lenL) (by rw [List.length_map])) ev_int rv_sub) eas_nil) (by omega)) (fun _ _ => tg_name)
    (fun i S' => ∃ (pre suf : List (List Int)) (e2 : Sl) (rs' : List (List Int)), S' = [.ow ((pre ++ suf).map tI), .im (.list (l.map tI)), e2, .no] ∧ pre.length = i ∧ (pre ++ suf).length = l.length ∧ (∀ x ∈ suf, IsP n x) ∧ passR suf = some rs' ∧ pre ++ rs' = rs)
    ⟨[], l, _, rs, rfl, rfl, rfl, pl, hrs, rfl⟩ ?_ ?_ ?_)
  · rintro i k S' _ ⟨_, _, _, _, rfl, _⟩ p hp
    rw [List.mem_singleton.mp hp]
    exact Nat.le_of_ble_eq_true rfl
  · rintro i k S' hk ⟨pre, suf, e2, rs', rfl, hpl, hlen, hsuf, hps, hcat⟩
    have hi : i < ((l.length : Int) - 1).toNat := by
      obtain ⟨z, _⟩ := List.getElem?_eq_some_iff.mp hk
      rwa [rgI_length] at z
    rw [rgI_get hi] at hk
    cases hk
    rw [List.length_append] at hlen
    match suf, hlen, hsuf, hps, hcat with
    | [], hlen, _, _, _ => simp only [List.length_nil] at hlen; omega
    | [_], hlen, _, _, _ => simp only [List.length_cons, List.length_nil] at hlen; omega
    | a :: b :: t, hlen, hsuf, hps, hcat =>
      obtain ⟨p, rs2, h1, h2, rfl⟩ := pass_step hps
      have pa := hsuf a (by simp)
      have pb := hsuf b (by simp)
      have pp := isP_st 64 pa pb h1
      subst hpl
      change Run K B _ [.ow ((pre ++ a :: b :: t).map tI), .im (.list (l.map tI)), .im (.int (0 + (pre.length : Int))), .no] _
      have hll : ((pre ++ a :: b :: t).map tI).length = pre.length + (t.length + 2) := by simp
      have ga : atI ((pre ++ a :: b :: t).map tI) (0 + (pre.length : Int)) = some (tI a) := by
        rw [Int.zero_add]
        exact atI_nat (by simp)
      have gb : atI ((pre ++ a :: b :: t).map tI) (0 + (pre.length : Int) + 1) = some (tI b) := by
        rw [Int.zero_add, show (pre.length : Int) + 1 = ((pre.length + 1 : Nat) : Int) by omega]
        exact atI_nat (by simp)
      refine run_swapC (i := 0) (d1 := tI p.1) (d2 := tI p.2) (k1 := 0 + (pre.length : Int)) (k2 := 0 + (pre.length : Int) + 1) (j1 := pre.length) (j2 := pre.length + 1) rfl
        (ev_call (eas_cons (ev_opR (ev_var rfl) (ev_var rfl) (rv_ixL ga)) (eas_cons (ev_opR (ev_var rfl) (by walk_at "ev") (rv_ixL gb)) eas_nil)) ⟨n, a, b, p, rfl, ⟨pa, pb, hn, h1⟩, rfl⟩) (noL_tI _) (noL_tI _) (ev_var rfl)
        (by rw [ixN_ok (by omega) (by rw [hll]; omega)]; congr 1; omega) (by walk_at "ev") (by rw [ixN_ok (by omega) (by rw [hll]; omega)]; congr 1; omega) ?_
      dsimp only [List.set]
      rw [set2_tIs]
      refine ⟨pre ++ [p.1], p.2 :: t, _, rs2, rfl, by simp, ?_, ?_, h2, ?_⟩
      · simp only [List.length_append, List.length_cons, List.length_nil] at hlen ⊢
        omega
      · intro x hx
        rcases List.mem_cons.mp hx with rfl | hx
        · exact pp.2
        · exact hsuf x (by simp [hx])
      · rw [List.append_assoc]
        exact hcat
  · rintro S' ⟨pre, suf, e2, rs', rfl, hpl, hlen, hsuf, hps, hcat⟩
    rw [rgI_length] at hpl
    have hs1 : suf.length ≤ 1 := by
      rw [List.length_append] at hlen
      omega
    have e := pass_end hs1 hps
    rw [e] at hcat
    rw [hcat]
    have hrl := pass_length l hrs
    refine run_seq (run_setF (ds := (noId rs).map tI) (ef_lc rs tI (fun x => [(3, tI x)]) (fun x => !decide (x = idF x.length)) tI (it_seqL (ev_var rfl)) (fun _ _ => tg_name) (fun _ _ p hp => by
      rw [List.mem_singleton.mp hp]; simp) (fun x hx => ?_) (fun a ha _ => em_R (noL_tI _) (by walk_at "ev")) (by omega)) (noLs_tIs _) (Nat.le_of_ble_eq_true rfl) ?_)
    · refine KW.eb_test (ev_opR (ev_var rfl) (KW.ev_tupRg1 (j := (x.length : Int)) (by walk_at "ev") ?_) (rv_neT (ys := idF x.length)))
      have := (isP_pass l pl hrs x hx).1
      omega
    dsimp only [List.set]
    refine run_if (b := decide (noId rs = l)) (KW.eb_test (ev_opR (ev_var rfl) (ev_var rfl) rv_eqLT)) (fun h => ?_) fun h => run_nx ?_
    · have h := of_decide_eq_true h
      dsimp only at he
      rw [if_pos h] at he
      cases he
      exact ret_O rfl
    · have h := of_decide_eq_false h
      dsimp only at he
      rw [if_neg h] at he
      have hle : (noId rs).length ≤ rs.length := List.length_filter_le _ _
      exact ⟨g, by omega, noId rs, _, _, rfl, isP_noId (isP_pass l pl hrs), by omega, he⟩

end
end K69

set_option Elab.async false
set_option linter.all false
set_option maxRecDepth 100000
set_option maxHeartbeats 8000000
namespace K69
open PySem PySem.Spec PyProof.Rows L2 KW BR
local macro_rules | `(tactic| walk_at "ev") => `(tactic| repeat' (first
  | with_reducible exact ev_int | with_reducible exact ev_str | with_reducible exact ev_bool | with_reducible exact ev_none
  | ((with_reducible apply ev_var); exact rfl)
  | with_reducible exact rv_add | with_reducible exact rv_sub | with_reducible exact rv_lt | with_reducible exact rv_le | with_reducible exact rv_gt | with_reducible exact rv_ge
  | with_reducible exact rv_eqI | with_reducible exact rv_neI | with_reducible exact rv_eqB | with_reducible exact rv_neB | with_reducible exact rv_eqT | with_reducible exact rv_neT | with_reducible exact rv_eqLI | with_reducible exact rv_neLI
  | with_reducible exact rv_isB | with_reducible exact rv_notB | with_reducible exact rv_inLI | with_reducible exact rv_inTI | with_reducible exact rv_niLI | with_reducible exact rv_niTI
  | ((with_reducible apply rv_eqS) <;> decide +kernel) | ((with_reducible apply rv_neS) <;> decide +kernel)
  | with_reducible apply rv_mul | with_reducible apply rv_mod | with_reducible apply rv_fdiv | with_reducible apply rv_pow | with_reducible apply rv_ixTI | with_reducible apply rv_ixLI | with_reducible apply rv_ixT | with_reducible apply rv_ixL | with_reducible apply rv_addT
  | with_reducible exact ru_neg
  | with_reducible exact rc_abs | with_reducible exact rc_max | with_reducible exact rc_min | with_reducible exact rc_minT | with_reducible exact rc_intI | with_reducible exact rc_intB | with_reducible exact rc_lenTI | with_reducible exact rc_lenLI | with_reducible exact rc_lenT | with_reducible exact rc_lenL | with_reducible exact rc_tupL | with_reducible exact rc_tupT | with_reducible exact rc_sum | with_reducible exact rc_all
  | with_reducible apply ev_opR
  | with_reducible apply ev_isiR
  | with_reducible exact isi_int | with_reducible exact isi_int_bool | with_reducible exact isi_tup | with_reducible exact isi_str
  | with_reducible apply ev_cbR
  | with_reducible apply KW.ev_un
  | with_reducible apply ev_tupR
  | ((with_reducible show okT _ = true); exact rfl)
  | with_reducible apply ev_revD
  | with_reducible exact RevD.lst _ | with_reducible exact RevD.tup _
  | with_reducible apply ev_slD
  | with_reducible exact SlD.lst _ | with_reducible exact SlD.tup _
  | with_reducible apply ef_lstR
  | with_reducible apply KW.ef_call
  | with_reducible apply KW.ef_addX_L
  | with_reducible apply KW.ef_listRg1 | with_reducible apply KW.ev_tupRg1 | with_reducible apply KW.ev_tupRg2
  | with_reducible apply ep_some
  | with_reducible exact ep_none
  | with_reducible apply KW.eb_test
  | with_reducible apply KW.eb_B
  | with_reducible apply KW.eb_not
  | with_reducible apply KW.ev_not
  | with_reducible exact eas_nil
  | with_reducible apply eas_cons
  | with_reducible apply KW.eb_and
  | with_reducible apply KW.eb_or
  | with_reducible apply KW.ev_and
  | with_reducible apply KW.ev_or
  | with_reducible apply KW.ev_chain
  | with_reducible apply KW.ev_call | with_reducible apply KW.ev_callF
  | walk_at "fr"
  | with_reducible refine fun (_ : _ = true) => ?_
  | with_reducible refine fun (_ : _ = false) => ?_))
local macro_rules | `(tactic| walk_at "sd") => `(tactic| first
  | assumption | omega | exact rfl | exact noL_tI _ | exact noLs_ints _ | exact Nat.le_of_ble_eq_true rfl
  | (refine Or.inl ⟨?_, ?_⟩ <;> omega) | (refine Or.inr ⟨?_, ?_⟩ <;> omega) | (refine And.intro ?_ ?_ <;> omega) | exact ⟨by omega, by omega, by decide⟩
  | exact ⟨_, _, rfl, rfl⟩)
local macro_rules | `(tactic| walk_at "set") => `(tactic| (apply run_seq; apply run_setR; (focus walk_at "ev"); all_goals (try walk_at "sd"); try dsimp only [List.set]))
local macro_rules | `(tactic| walk_at "setF") => `(tactic| (apply run_seq; apply run_setF; (focus walk_at "ev"); all_goals (try walk_at "sd"); try dsimp only [List.set]))
local macro_rules | `(tactic| walk_at "if") => `(tactic| (apply run_seq; apply run_if; (focus walk_at "ev"); all_goals (try walk_at "sd")))
local macro_rules | `(tactic| walk_at "if1") => `(tactic| (apply run_if; (focus walk_at "ev"); all_goals (try walk_at "sd")))
local macro_rules | `(tactic| walk_at "ret") => `(tactic| (apply ret_R; apply EvR.to; (focus walk_at "ev"); all_goals (try walk_at "sd")))
local macro_rules | `(tactic| walk_at "app") => `(tactic| (apply run_app; exact rfl; (focus walk_at "ev"); all_goals (try walk_at "sd"); try dsimp only [List.set]))
local macro_rules | `(tactic| walk_at "fr") => `(tactic| first | exact ⟨_, _, rfl, by omega, rfl⟩ | exact ⟨_, rfl, rfl⟩ | exact ⟨_, _, rfl, rfl⟩ | exact ⟨_, _, _, rfl, rfl⟩)

section
variable {P : Program} {w : World} {K : PySem.W.Frag} {mg : Str → Option Value} {base : Heap}
/-! plain -/
def frPlain : List D → D → Prop := fun ds d => ∃ (n : Int) (w : List Int) (r : Int × List (List Int)), ds = [.int n, tI w] ∧ (2 ≤ n ∧ n ≤ 100 ∧ w.length ≤ 200 ∧ okW n w ∧ plR n w = some r) ∧ d = fD r
theorem ok_plain {f : Addr} {fd : FuncData} (F : Fun K "plain" "plain" s_plain f fd) (m : Bl mg) (d_with_last : DefOk P w K mg base "with_last" ["order", "k"] 1 (spR K frWl)) (d_flipped : DefOk P w K mg base "flipped" ["order"] 1 (spR K frFl))
    (d_pressed : DefOk P w K mg base "pressed" ["rows"] 3 (spF K frPressed)) : FnOk P w K mg base CX0 4 f fd ["n", "braid"] (spR K frPlain) := by
  refine def_R F sc_plain frPlain (fun ds d ⟨_, _, _, h, _⟩ => by rw [h]; rfl) fun cdv A outer s H E hr => ⟨_, (pss_cons (ps_par (i := 2) (j := 3) rfl sc_plain.nd rfl rfl (by decide) rfl rfl (pa_cons (rev_K K rfl (KW.pe_tupRg rfl (by rfl) m.tuple (prg_1 (by rfl) m.range (pv 0)))) (pa_cons (KW.pe_tupRg rfl (by rfl) m.tuple (prg_1 (by rfl) m.range (pv 0))) pa_nil)) (by rfl))
        (pss_cons (ps_par (i := 4) (j := 5) rfl sc_plain.nd rfl rfl (by decide) rfl rfl (pa_cons pe_int (pa_cons (pe_lst pa_nil) pa_nil)) (by rfl))
        (pss_cons (ps_for PassesOwn.never rfl (seq_K K rfl (pv 1)) (pg_name (i := 6) sc_plain.nd rfl (Or.inl rfl)) (pss_cons (ps_set (i := 7) sc_plain.nd rfl (.inl rfl) (pe_callB call_abs (by rfl) m.abs (by decide +kernel) (pa_cons (pv 6) pa_nil)))
        (pss_cons (ps_if (pt_cmpR op_gt (pv 6) pe_int (nomark _)) (pss_one (ps_expr (pe_bm PySem.F.plainAttrs_list PySem.F.slot_list_append PySem.F.type_list_append mt_append (pv 5) (pa_cons (pe_callD d_with_last (hr.mono (by decide)) (by rfl) (pa_cons (pv 3) (pa_cons (pv 7) pa_nil))) pa_nil)))) (pss_cons (ps_aug (i := 4) sc_plain.nd rfl (.inl rfl) pe_int ip_sub)
        (pss_one (ps_set (i := 5) sc_plain.nd rfl (.inl rfl) (pe_op (op_addK K rfl) (pe_lc (own := [("row", 8)]) rfl sc_plain.nd (seq_K K rfl (pv 5)) (blkOk_by (N := ["n", "braid", "full", "none", "count", "rows", "x", "k", "row"]) (sc := defScope s_plain) (by decide +kernel)) (fun _ _ _ _ _ => (pg_name (i := 8) sc_plain.nd rfl (Or.inl rfl))) (fun _ _ _ _ _ => pts_nil) (fun _ _ _ _ _ => (pe_callD d_flipped (hr.mono (by decide)) (by rfl) (pa_cons (pv 8) pa_nil)))) (pe_lst (pa_cons (pe_callD d_with_last (hr.mono (by decide)) (by rfl) (pa_cons (pv 2) (pa_cons (pv 7) pa_nil))) pa_nil)))))))
        (pss_cons (ps_set (i := 5) sc_plain.nd rfl (.inl rfl) (pe_callD d_pressed (hr.mono (by decide)) (by rfl) (pa_cons (pv 5) pa_nil)))
        (pss_one (ps_while PassesOwn.never (PW.pt (pw_and (pt_cmpR op_gt (pe_callB (len_K K rfl) (by rfl) m.len PySem.boot_len (pa_cons (pv 5) pa_nil)) pe_int (nomark _)) (pw_and1 (pt_cmpR (op_eqK K rfl hr.units) (pe_ix (ix_K K rfl) (pv 5) pe_int (fun _ _ => rfl)) (pv 2) (nomark _))))) (pss_one (ps_par (i := 5) (j := 4) rfl sc_plain.nd rfl rfl (by decide) rfl rfl (pa_cons (pe_slice (sl_K K rfl) (pv 5) (po_some pe_int) po_none) (pa_cons (pe_op (op_addK K rfl) (pv 4) pe_int) pa_nil)) (by rfl)))))))))
        (pss_one (ps_ret (KW.pe_tup (pa_cons (pv 4) (pa_cons (pe_callTy (tupOf_K K rfl) (by rfl) m.tuple (by decide +kernel) (pa_cons (pv 5) pa_nil)) pa_nil)))))))), fun ds d ⟨n, w, r, h1, ⟨hn, hn2, hlw, hw, he⟩, h2⟩ B => ?_⟩
  subst h1 h2
  try dsimp only [cxOf, Cx.nox, Cx.wish]
  change Run K B _ [.im (.int n), .im (tI w), .no, .no, .no, .no, .no, .no, .no] _
  refine run_seq (run_parRR (d1 := tI (fullF n)) (d2 := tI (idF n.toNat)) (EvR.to (ev_revD (KW.ev_tupRg1 (j := n) (ev_var rfl) (by omega)) (RevD.tup _)) (by rw [rev_ints]; rfl)) (KW.ev_tupRg1 (j := n) (ev_var rfl) (by omega)) (noL_tI _) (noL_tI _) (Nat.le_of_ble_eq_true rfl) (Nat.le_of_ble_eq_true rfl) ?_)
  dsimp only [List.set]
  refine run_seq (run_parRF (d1 := .int 0) (ds := []) (by walk_at "ev") (ef_lstR eas_nil rfl) rfl rfl (Nat.le_of_ble_eq_true rfl) (Nat.le_of_ble_eq_true rfl) ?_)
  dsimp only [List.set]
  refine run_seq (run_for w .int (fun x => [(6, .int x)]) (its_seqT (ev_var rfl) (noLs_ints w)) (fun _ _ => tg_name)
    (fun i S' => ∃ (c : Int) (rows : List (List Int)) (e6 e7 : Sl), S' = [.im (.int n), .im (tI w), .im (tI (fullF n)), .im (tI (idF n.toNat)), .im (.int c), .ow (rows.map tI), e6, e7, .no] ∧ plFrom n (c, rows) (w.drop i) = some r ∧ (∀ x ∈ rows, IsP n.toNat x) ∧ rows.length ≤ i)
    ⟨0, [], _, _, rfl, by rw [List.drop_zero]; exact he, by simp, Nat.le_refl _⟩ ?_ ?_ ?_)
  · rintro i k S' _ ⟨_, _, _, _, rfl, _⟩ p hp
    rw [List.mem_singleton.mp hp]
    exact Nat.le_of_ble_eq_true rfl
  · rintro i x S' hx ⟨c, rows, e6, e7, rfl, hpl, hrows, hlen⟩
    obtain ⟨hiw, hxe⟩ := List.getElem?_eq_some_iff.mp hx
    have hxw := hw x (List.mem_of_getElem? hx)
    rw [List.drop_eq_getElem_cons hiw, hxe, plFrom] at hpl
    obtain ⟨s', hs'⟩ : ∃ s', pstep n (c, rows) x = some s' := by
      cases h : pstep n (c, rows) x with
      | none => rw [h] at hpl; cases hpl
      | some s' => exact ⟨s', rfl⟩
    rw [hs'] at hpl
    dsimp only at hpl
    have hp' := isP_pstep (s := (c, rows)) hrows hxw.1 hxw.2 hs'
    have hl' := pstep_length hs'
    have hpa := isP_add (x := x) hrows hxw.1 hxw.2
    have hla := add_length n rows x
    unfold pstep at hs'
    obtain ⟨rs, hrs⟩ : ∃ rs, prR 10000 (addR n rows x) = some rs := by
      cases h : prR 10000 (addR n rows x) with
      | none => rw [h] at hs'; cases hs'
      | some rs => exact ⟨rs, rfl⟩
    rw [hrs] at hs'
    have hs' : stripF (fullF n) (if 0 < x then c else c - 1) rs = s' := Option.some.inj hs'
    change Run K B _ [.im (.int n), .im (tI w), .im (tI (fullF n)), .im (tI (idF n.toNat)), .im (.int c), .ow (rows.map tI), .im (.int x), e7, .no] _
    refine run_seq (run_setR (d := .int (if x < 0 then -x else x)) (by walk_at "ev") rfl (Nat.le_of_ble_eq_true rfl) ?_)
    dsimp only [List.set]
    have hfull : (fullF n).length ≤ 1000 := by rw [(isP_full n).1]; omega
    have hid : (idF n.toNat).length ≤ 1000 := by rw [(isP_id _).1]; omega
    refine run_mid (T := [.im (.int n), .im (tI w), .im (tI (fullF n)), .im (tI (idF n.toNat)), .im (.int (if 0 < x then c else c - 1)), .ow ((addR n rows x).map tI), .im (.int x), .im (.int (if x < 0 then -x else x)), .no]) ?_ ?_
    · refine run_if (b := decide (0 < x)) (by walk_at "ev") (fun h => ?_) fun h => ?_
      · have h := of_decide_eq_true h
        refine run_app (d := tI (wlF (idF n.toNat) x)) rfl (ev_call (by walk_at "ev") ⟨idF n.toNat, _, rfl, hid, by rw [if_neg (show ¬ x < 0 by omega)]⟩) (noL_tI _) (by rw [List.length_map]; omega) ?_
        dsimp only [List.set]
        rw [addR, if_pos h, if_pos h, List.map_append]
        rfl
      · have h := of_decide_eq_false h
        have hx0 : x < 0 := by
          by_cases q : x < 0
          · exact q
          · rw [if_neg q] at hxw; omega
        refine run_seq (run_aug (a := c) (c := 1) rfl (by walk_at "ev") (Nat.le_of_ble_eq_true rfl) ?_)
        dsimp only [List.set]
        refine run_setF (ds := (rows.map flF ++ [wlF (fullF n) (-x)]).map tI) (EvF.to (ef_addX_L (ds := (rows.filter fun _ => true).map fun x => tI (flF x)) (es := [tI (wlF (fullF n) (-x))]) (ef_lc rows tI (fun x => [(8, tI x)]) (fun _ => true) (fun x => tI (flF x)) (it_seqL (ev_var rfl)) (fun _ _ => tg_name) (fun _ _ p hp => by
          rw [List.mem_singleton.mp hp]; simp) (fun a ha => fun σ H E Q q => q H (Evl.Ex.refl H)) (fun a ha _ => em_R (noL_tI _) (ev_call (by walk_at "ev") ⟨a, rfl, by rw [(hrows a ha).1]; omega, rfl⟩)) (by omega)) (ef_lstR (eas_cons (ev_call (by walk_at "ev") ⟨fullF n, _, rfl, hfull, by rw [if_pos hx0]⟩) eas_nil) rfl) ?_) ?_) (noLs_tIs _) (Nat.le_of_ble_eq_true rfl) ?_
        · rw [List.filter_eq_self.mpr (fun _ _ => rfl), List.length_map]
          show rows.length + 1 ≤ _
          omega
        · rw [List.filter_eq_self.mpr (fun _ _ => rfl), List.map_append, List.map_map]
          rfl
        · dsimp only [List.set]
          rw [addR, if_neg h, if_neg h]
    refine run_seq (run_setF (ds := rs.map tI) (KW.ef_call (eas_cons (ev_var rfl) eas_nil) ⟨n.toNat, addR n rows x, rs, rfl, ⟨hpa, by omega, by omega, hrs⟩, rfl⟩) (noLs_tIs _) (Nat.le_of_ble_eq_true rfl) ?_)
    dsimp only [List.set]
    refine run_while (fun m S' => ∃ (c : Int) (rs : List (List Int)), S' = [.im (.int n), .im (tI w), .im (tI (fullF n)), .im (tI (idF n.toNat)), .im (.int c), .ow (rs.map tI), .im (.int x), .im (.int (if x < 0 then -x else x)), .no] ∧ stripF (fullF n) c rs = s' ∧ m = rs.length) _ ⟨_, rs, rfl, hs', rfl⟩ ?_
    rintro m S' ⟨c2, rs2, rfl, hst, rfl⟩
    match rs2, hst with
    | [], hst =>
      rw [stripF] at hst
      refine ⟨false, KW.eb_and (b := false) (c := false) (EvB.to (b := decide ((0 : Int) < (((([] : List (List Int)).map tI).length : Nat) : Int))) (by walk_at "ev") rfl) (fun z => by cases z), fun z => (by cases z), fun _ => ?_⟩
      subst hst
      exact ⟨_, _, _, _, rfl, hpl, hp', by simp⟩
    | r0 :: t, hst =>
      refine ⟨decide (r0 = fullF n), EvB.to (KW.eb_and (b := true) (c := decide (r0 = fullF n)) (EvB.to (b := decide ((((r0 :: t).map tI).length : Int) > 0)) (by walk_at "ev") (by simp)) fun _ => KW.eb_test (ev_opR (ev_opR (ev_var rfl) ev_int (rv_ixL (atI_nat (j := 0) rfl))) (ev_var rfl) rv_eqT)) (by simp), fun h => ?_, fun h => ?_⟩
      · have h := of_decide_eq_true h
        rw [stripF, if_pos h] at hst
        refine run_parFR (ds := t.map tI) (d2 := .int (c2 + 1)) (EvF.to (ef_slX_L (ev_var rfl) (ep_some ev_int) ep_none) ?_) (by walk_at "ev") (noLs_tIs _) rfl (Nat.le_of_ble_eq_true rfl) (Nat.le_of_ble_eq_true rfl) ?_
        · show cutD ((r0 :: t).map tI) (some ((1 : Nat) : Int)) none = _
          rw [cut_map]
          rfl
        · exact ⟨t.length, by simp, _, _, rfl, hst, rfl⟩
      · have h := of_decide_eq_false h
        rw [stripF, if_neg h] at hst
        subst hst
        exact ⟨_, _, _, _, rfl, hpl, hp', by
          have h9 : (r0 :: t).length ≤ rows.length + 1 := hl'
          omega⟩
  · rintro S' ⟨c, rows, e6, e7, rfl, hpl, hrows, hlen⟩
    rw [List.drop_length, plFrom] at hpl
    cases hpl
    exact ret_R (EvR.to (ev_tupR (ds := [.int c, .tuple (rows.map tI)]) (eas_cons (ev_var rfl) (eas_cons (ev_cbR (eas_cons (ev_var rfl) eas_nil) rc_tupL) eas_nil)) rfl) rfl)
/-! same, is_positive -/
def frSame : List D → D → Prop := fun ds d => ∃ (n : Int) (w u : List Int) (r q : Int × List (List Int)), ds = [.int n, tI w, tI u] ∧ (2 ≤ n ∧ n ≤ 100 ∧ w.length ≤ 200 ∧ okW n w ∧ plR n w = some r ∧ u.length ≤ 200 ∧ okW n u ∧ plR n u = some q) ∧ d = .bool (decide (r = q))
theorem ok_same {f : Addr} {fd : FuncData} (F : Fun K "same" "same" s_same f fd) (m : Bl mg) (d_plain : DefOk P w K mg base "plain" ["n", "braid"] 4 (spR K frPlain)) : FnOk P w K mg base CX0 5 f fd ["n", "one", "two"] (spR K frSame) := by
  refine def_R F sc_same frSame (fun ds d ⟨_, _, _, _, _, h, _⟩ => by rw [h]; rfl) fun cdv A outer s H E hr => ⟨_, (pss_one (ps_ret (pe_cmpR (op_eqK K rfl hr.units) (pe_callD d_plain (hr.mono (by decide)) (by rfl) (pa_cons (pv 0) (pa_cons (pv 1) pa_nil))) (pe_callD d_plain (hr.mono (by decide)) (by rfl) (pa_cons (pv 0) (pa_cons (pv 2) pa_nil))) (nomark _)))), fun ds d ⟨n, w, u, r, q, h1, ⟨a1, a2, a3, a4, a5, a6, a7, a8⟩, h2⟩ B => ?_⟩
  subst h1 h2
  try dsimp only [cxOf, Cx.nox, Cx.wish]
  change Run K B _ [.im (.int n), .im (tI w), .im (tI u)] _
  exact ret_R (ev_opR (ev_call (by walk_at "ev") ⟨n, w, r, rfl, ⟨a1, a2, a3, a4, a5⟩, rfl⟩) (ev_call (by walk_at "ev") ⟨n, u, q, rfl, ⟨a1, a2, a6, a7, a8⟩, rfl⟩) rv_eqF)

end
end K69

set_option Elab.async false
set_option linter.all false
set_option maxRecDepth 100000
set_option maxHeartbeats 8000000
namespace K69
open PySem PySem.Spec PyProof.Rows L2 KW BR
local macro_rules | `(tactic| walk_at "ev") => `(tactic| repeat' (first
  | with_reducible exact ev_int | with_reducible exact ev_str | with_reducible exact ev_bool | with_reducible exact ev_none
  | ((with_reducible apply ev_var); exact rfl)
  | with_reducible exact rv_add | with_reducible exact rv_sub | with_reducible exact rv_lt | with_reducible exact rv_le | with_reducible exact rv_gt | with_reducible exact rv_ge
  | with_reducible exact rv_eqI | with_reducible exact rv_neI | with_reducible exact rv_eqB | with_reducible exact rv_neB | with_reducible exact rv_eqT | with_reducible exact rv_neT | with_reducible exact rv_eqLI | with_reducible exact rv_neLI
  | with_reducible exact rv_isB | with_reducible exact rv_notB | with_reducible exact rv_inLI | with_reducible exact rv_inTI | with_reducible exact rv_niLI | with_reducible exact rv_niTI
  | ((with_reducible apply rv_eqS) <;> decide +kernel) | ((with_reducible apply rv_neS) <;> decide +kernel)
  | with_reducible apply rv_mul | with_reducible apply rv_mod | with_reducible apply rv_fdiv | with_reducible apply rv_pow | with_reducible apply rv_ixTI | with_reducible apply rv_ixLI | with_reducible apply rv_ixT | with_reducible apply rv_ixL | with_reducible apply rv_addT
  | with_reducible exact ru_neg
  | with_reducible exact rc_abs | with_reducible exact rc_max | with_reducible exact rc_min | with_reducible exact rc_minT | with_reducible exact rc_intI | with_reducible exact rc_intB | with_reducible exact rc_lenTI | with_reducible exact rc_lenLI | with_reducible exact rc_lenT | with_reducible exact rc_lenL | with_reducible exact rc_tupL | with_reducible exact rc_tupT | with_reducible exact rc_sum | with_reducible exact rc_all
  | with_reducible apply ev_opR
  | with_reducible apply ev_isiR
  | with_reducible exact isi_int | with_reducible exact isi_int_bool | with_reducible exact isi_tup | with_reducible exact isi_str
  | with_reducible apply ev_cbR
  | with_reducible apply KW.ev_un
  | with_reducible apply ev_tupR
  | ((with_reducible show okT _ = true); exact rfl)
  | with_reducible apply ev_revD
  | with_reducible exact RevD.lst _ | with_reducible exact RevD.tup _
  | with_reducible apply ev_slD
  | with_reducible exact SlD.lst _ | with_reducible exact SlD.tup _
  | with_reducible apply ef_lstR
  | with_reducible apply KW.ef_call
  | with_reducible apply KW.ef_addX_L
  | with_reducible apply KW.ef_listRg1 | with_reducible apply KW.ev_tupRg1 | with_reducible apply KW.ev_tupRg2
  | with_reducible apply ep_some
  | with_reducible exact ep_none
  | with_reducible apply KW.eb_test
  | with_reducible apply KW.eb_B
  | with_reducible apply KW.eb_not
  | with_reducible apply KW.ev_not
  | with_reducible exact eas_nil
  | with_reducible apply eas_cons
  | with_reducible apply KW.eb_and
  | with_reducible apply KW.eb_or
  | with_reducible apply KW.ev_and
  | with_reducible apply KW.ev_or
  | with_reducible apply KW.ev_chain
  | with_reducible apply KW.ev_call | with_reducible apply KW.ev_callF
  | walk_at "fr"
  | with_reducible refine fun (_ : _ = true) => ?_
  | with_reducible refine fun (_ : _ = false) => ?_))
local macro_rules | `(tactic| walk_at "sd") => `(tactic| first
  | assumption | omega | exact rfl | exact noL_tI _ | exact noLs_ints _ | exact Nat.le_of_ble_eq_true rfl
  | (refine Or.inl ⟨?_, ?_⟩ <;> omega) | (refine Or.inr ⟨?_, ?_⟩ <;> omega) | (refine And.intro ?_ ?_ <;> omega) | exact ⟨by omega, by omega, by decide⟩
  | exact ⟨_, _, rfl, rfl⟩)
local macro_rules | `(tactic| walk_at "set") => `(tactic| (apply run_seq; apply run_setR; (focus walk_at "ev"); all_goals (try walk_at "sd"); try dsimp only [List.set]))
local macro_rules | `(tactic| walk_at "setF") => `(tactic| (apply run_seq; apply run_setF; (focus walk_at "ev"); all_goals (try walk_at "sd"); try dsimp only [List.set]))
local macro_rules | `(tactic| walk_at "if") => `(tactic| (apply run_seq; apply run_if; (focus walk_at "ev"); all_goals (try walk_at "sd")))
local macro_rules | `(tactic| walk_at "if1") => `(tactic| (apply run_if; (focus walk_at "ev"); all_goals (try walk_at "sd")))
local macro_rules | `(tactic| walk_at "ret") => `(tactic| (apply ret_R; apply EvR.to; (focus walk_at "ev"); all_goals (try walk_at "sd")))
local macro_rules | `(tactic| walk_at "app") => `(tactic| (apply run_app; exact rfl; (focus walk_at "ev"); all_goals (try walk_at "sd"); try dsimp only [List.set]))
local macro_rules | `(tactic| walk_at "fr") => `(tactic| first | exact ⟨_, _, rfl, by omega, rfl⟩ | exact ⟨_, rfl, rfl⟩ | exact ⟨_, _, rfl, rfl⟩ | exact ⟨_, _, _, rfl, rfl⟩)

section
variable {P : Program} {w : World} {K : PySem.W.Frag} {mg : Str → Option Value} {base : Heap}
/-! _law_cell -/
def frCell : List D → D → Prop := fun ds d => ∃ (ns : List Int) (k : Int), ds = [lI ns, .int k] ∧ 0 ≤ k ∧ d = .int (ns.getD k.toNat 0)
theorem ok__law_cell {f : Addr} {fd : FuncData} (F : Fun K "_law_cell" "_law_cell" s__law_cell f fd) (m : Bl mg) : FnOk P w K mg base CX0 1 f fd ["script", "k"] (spR K frCell) := by
  refine def_R F sc__law_cell frCell (fun ds d ⟨_, _, h, _⟩ => by rw [h]; rfl) fun cdv A outer s H E hr => ⟨_, (pss_cons (ps_if (pt_cmpR op_lt (pv 1) (pe_callB (len_K K rfl) (by rfl) m.len PySem.boot_len (pa_cons (pv 0) pa_nil)) (nomark _)) (pss_one (ps_ret (pe_ix (ix_K K rfl) (pv 0) (pv 1) (fun _ _ => rfl)))) pss_nil)
        (pss_one (ps_ret pe_int))), fun ds d ⟨ns, k, h1, h0, h2⟩ B => ?_⟩
  subst h1 h2
  try dsimp only [cxOf, Cx.nox, Cx.wish]
  change Run K B _ [.im (lI ns), .im (.int k)] _
  walk_at "if"
  · intro h
    have h := of_decide_eq_true h
    walk_at "ret"
  · intro h
    have h := of_decide_eq_false h
    refine run_nx ?_
    walk_at "ret"
    rw [List.getD_eq_getElem?_getD, List.getElem?_eq_none (by omega)]
    rfl

/-! _law_draws -/
def blend (cell k : Int) : Int :=
  ((((cell * 48271 + (k + 1) * 69621) % 2147483647 * ((cell * 48271 + (k + 1) * 69621) % 2147483647) + (cell * 48271 + (k + 1) * 69621) % 2147483647 * 16807 + k * 7919) % 2147483629 *
    (((cell * 48271 + (k + 1) * 69621) % 2147483647 * ((cell * 48271 + (k + 1) * 69621) % 2147483647) + (cell * 48271 + (k + 1) * 69621) % 2147483647 * 16807 + k * 7919) % 2147483629) + cell + 13 * k) % 2147483587) / 7 % 4096
def drawStep (cell : Int) (st : List Int × Int) (k : Int) : List Int × Int :=
  if 10 ^ 18 ≤ cell ∧ 0 < st.2 then (st.1 ++ [st.2 % 4096], st.2 / 4096) else (st.1 ++ [blend cell k], st.2)
def draws (cell : Int) : List Int := ((rgI 0 20).foldl (drawStep cell) ([], cell)).1
theorem drawStep_ok (cell : Int) (st : List Int × Int) (k : Int) (h : ∀ x ∈ st.1, 0 ≤ x ∧ x < (4096 : Int)) : (drawStep cell st k).1.length = st.1.length + 1 ∧ ∀ x ∈ (drawStep cell st k).1, 0 ≤ x ∧ x < (4096 : Int) := by
  unfold drawStep
  split
  · refine ⟨by simp, fun x hx => ?_⟩
    rcases List.mem_append.mp hx with hx | hx
    · exact h x hx
    · rw [List.mem_singleton.mp hx]; omega
  · refine ⟨by simp, fun x hx => ?_⟩
    rcases List.mem_append.mp hx with hx | hx
    · exact h x hx
    · rw [List.mem_singleton.mp hx]
      unfold blend
      omega
theorem drawFold_ok (cell : Int) : ∀ (l : List Int) (st : List Int × Int), (∀ x ∈ st.1, 0 ≤ x ∧ x < (4096 : Int)) → (l.foldl (drawStep cell) st).1.length = st.1.length + l.length ∧ ∀ x ∈ (l.foldl (drawStep cell) st).1, 0 ≤ x ∧ x < (4096 : Int)
  | [], st, h => ⟨rfl, h⟩
  | k :: l, st, h => by
    obtain ⟨h1, h2⟩ := drawStep_ok cell st k h
    obtain ⟨h3, h4⟩ := drawFold_ok cell l (drawStep cell st k) h2
    refine ⟨?_, h4⟩
    rw [List.foldl_cons, h3, h1, List.length_cons]
    omega
theorem draws_ok (cell : Int) : (draws cell).length = 20 ∧ ∀ x ∈ draws cell, 0 ≤ x ∧ x < (4096 : Int) := drawFold_ok cell (rgI 0 20) ([], cell) (fun _ h => by cases h)
def frDraws : List D → List D → Prop := fun ds es => ∃ cell : Int, ds = [.int cell, .int 20] ∧ es = (draws cell).map .int
theorem ok__law_draws {f : Addr} {fd : FuncData} (F : Fun K "_law_draws" "_law_draws" s__law_draws f fd) (m : Bl mg) : FnOk P w K mg base CX0 1 f fd ["cell", "amount"] (spF K frDraws) := by
  refine def_F F sc__law_draws frDraws (fun ds d ⟨_, h, _⟩ => by rw [h]; rfl) fun cdv A outer s H E hr => ⟨_, (pss_cons (ps_set (i := 2) sc__law_draws.nd rfl (.inl rfl) (pe_lst pa_nil))
        (pss_cons (ps_set (i := 3) sc__law_draws.nd rfl (.inl rfl) (pv 0))
        (pss_cons (ps_for PassesOwn.never rfl (pi_range1 (by rfl) m.range (pa_cons (pv 1) pa_nil)) (pg_name (i := 4) sc__law_draws.nd rfl (Or.inl rfl)) (pss_one (ps_if (PW.pt (pw_and (pt_cmpR op_ge (pv 0) (pe_op op_pow pe_int pe_int) (nomark _)) (pw_and1 (pt_cmpR op_gt (pv 3) pe_int (nomark _))))) (pss_cons (ps_expr (pe_bm PySem.F.plainAttrs_list PySem.F.slot_list_append PySem.F.type_list_append mt_append (pv 2) (pa_cons (pe_op op_mod (pe_callTy call_int1 (by rfl) m.int (by decide +kernel) (pa_cons (pv 3) pa_nil)) pe_int) pa_nil)))
        (pss_one (ps_set (i := 3) sc__law_draws.nd rfl (.inl rfl) (pe_op op_fdiv (pv 3) pe_int)))) (pss_cons (ps_set (i := 5) sc__law_draws.nd rfl (.inl rfl) (pe_op op_mod (pe_callTy call_int1 (by rfl) m.int (by decide +kernel) (pa_cons (pe_op (op_addK K rfl) (pe_op op_mul (pv 0) pe_int) (pe_op op_mul (pe_op (op_addK K rfl) (pv 4) pe_int) pe_int)) pa_nil)) pe_int))
        (pss_cons (ps_set (i := 5) sc__law_draws.nd rfl (.inl rfl) (pe_op op_mod (pe_callTy call_int1 (by rfl) m.int (by decide +kernel) (pa_cons (pe_op (op_addK K rfl) (pe_op (op_addK K rfl) (pe_op op_mul (pv 5) (pv 5)) (pe_op op_mul (pv 5) pe_int)) (pe_op op_mul (pv 4) pe_int)) pa_nil)) pe_int))
        (pss_cons (ps_set (i := 5) sc__law_draws.nd rfl (.inl rfl) (pe_op op_mod (pe_callTy call_int1 (by rfl) m.int (by decide +kernel) (pa_cons (pe_op (op_addK K rfl) (pe_op (op_addK K rfl) (pe_op op_mul (pv 5) (pv 5)) (pv 0)) (pe_op op_mul pe_int (pv 4))) pa_nil)) pe_int))
        (pss_one (ps_expr (pe_bm PySem.F.plainAttrs_list PySem.F.slot_list_append PySem.F.type_list_append mt_append (pv 2) (pa_cons (pe_op op_mod (pe_op op_fdiv (pv 5) pe_int) pe_int) pa_nil))))))))))
        (pss_one (ps_ret (pv 2)))))), fun ds d ⟨cell, h1, h2⟩ B => ?_⟩
  subst h1 h2
  try dsimp only [cxOf, Cx.nox, Cx.wish]
  change Run K B _ [.im (.int cell), .im (.int 20), .no, .no, .no, .no] _
  walk_at "setF"
  walk_at "set"
  refine run_seq (run_for_fold (rgI 0 20) .int (fun k => [(4, .int k)]) (its_rng1 (n := 20) (by walk_at "ev") (by omega)) (fun _ _ => tg_name)
    (fun st S' => ∃ e4 e5, S' = [.im (.int cell), .im (.int 20), .ow (st.1.map .int), .im (.int st.2), e4, e5]) (drawStep cell) ([], cell) ⟨_, _, rfl⟩ ?_ ?_ ?_)
  · rintro b k S' _ ⟨e4, e5, rfl⟩ p hp
    rw [List.mem_singleton.mp hp]
    exact Nat.le_of_ble_eq_true rfl
  · rintro i b k S' hk hb ⟨e4, e5, rfl⟩
    have hl : (b.1.map PyData.int).length < 100000 := by
      obtain ⟨q, _⟩ := drawFold_ok cell ((rgI 0 20).take i) ([], cell) (fun _ h => by cases h)
      rw [← hb] at q
      rw [List.length_map, q, List.length_take]
      simp [rgI_length]
      omega
    change Run K B _ [.im (.int cell), .im (.int 20), .ow (b.1.map .int), .im (.int b.2), .im (.int k), e5] _
    have hp : (10 : Int) ^ (18 : Int).toNat = 10 ^ 18 := rfl
    walk_at "if1"
    · intro h
      simp only [Bool.and_eq_true, decide_eq_true_eq, hp] at h
      apply run_seq
      walk_at "app"
      apply run_setR
      (focus walk_at "ev")
      all_goals (try walk_at "sd")
      have e : drawStep cell b k = (b.1 ++ [b.2 % 4096], b.2 / 4096) := if_pos h
      simp only [e, List.map_append, List.set]
      exact ⟨_, _, rfl⟩
    · intro h
      simp only [Bool.and_eq_false_iff, decide_eq_false_iff_not, hp] at h
      have h' : ¬ (10 ^ 18 ≤ cell ∧ 0 < b.2) := fun z => h.elim (fun y => y z.1) (fun y => y z.2)
      walk_at "set"
      walk_at "set"
      walk_at "set"
      walk_at "app"
      have e : drawStep cell b k = (b.1 ++ [blend cell k], b.2) := if_neg h'
      simp only [e, List.map_append, List.set]
      exact ⟨_, _, rfl⟩
  · rintro S' ⟨e4, e5, rfl⟩
    exact ret_O rfl

/-! _law_pool -/
theorem run_pool {B : Hp} {S : SS} {ms : List Int} {Q : VK} {nx bk ct : SS → Prop} (hs : S[1]? = some (.ow (ms.map .int)))
    (hq : ∀ (l r c : Addr) (H' : Hp), B l = none → B r = none → B c = none → l ≠ c → r ≠ c → Evl.Ex B H' → H' l = some (.lst [.ref r, .ref c]) → H' r = some (.lst (ms.map .int)) → H' c = some (.lst [.int 0]) → Q (.ref l) H') :
    Run K B (tRet (tLst (tCons (tVar 1) (tCons (tLst (tCons (tC (.int 0)) tNil)) tNil)))) S ⟨nx, Q, bk, ct⟩ := fun B' e D σ H sb nx rt bk ct => by
  have ex := sb.ex
  obtain ⟨Hm, A, eB, sa⟩ := sb
  obtain ⟨v, hv, ho⟩ := sa.own 1 _ hs (by intro z; cases z)
  obtain ⟨r, vs, rfl, hA, hr, hd⟩ := ho
  rw [DpAll.ints hd] at hr
  refine ⟨_, hv, by show 1 ≤ sizeLine; decide, fun c hc => ⟨by show 2 ≤ sizeLine; decide, fun l hl => ?_⟩⟩
  have e1 : Evl.Ex H (upd H c (.lst [.int 0])) := Evl.Ex.new hc
  have e2 : Evl.Ex (upd H c (.lst [.int 0])) (upd (upd H c (.lst [.int 0])) l (.lst [.ref r, .ref c])) := Evl.Ex.new hl
  have nlc : l ≠ c := fun z => by subst z; rw [upd_same] at hl; cases hl
  have nrc : r ≠ c := ne_of_none hr hc
  exact rt _ _ (hq l r c _ (Evl.fresh_back ((e.trans ex).trans e1) hl) (Evl.fresh_back (e.trans eB) (sa.out 1 r (by rw [hA]; simp))) (Evl.fresh_back (e.trans ex) hc) nlc nrc ((e.trans ex).trans (e1.trans e2)) upd_same (e2 _ _ (e1 _ _ hr)) (e2 _ _ upd_same))
theorem ok__law_pool {f : Addr} {fd : FuncData} (F : Fun K "_law_pool" "_law_pool" s__law_pool f fd) (m : Bl mg) (hu5 : True) (d__law_cell : DefOk P w K mg base "_law_cell" ["script", "k"] 1 (spR K frCell)) (d__law_draws : DefOk P w K mg base "_law_draws" ["cell", "amount"] 1 (spF K frDraws)) :
    FnOk P w K mg base CX0 2 f fd ["script"] (spPool K) := by
  refine F.ok sc__law_pool (fun vs H Q E h => ?_) (fun cdv A outer s H vs Q E hr h => ?_)
  · obtain ⟨ns, r, _⟩ := h
    rw [Paired.length r]
    rfl
  have hu5 : (A.deeper (envOfC "_law_pool" (defScope s__law_pool) s.heap.objs.size f cdv)).units + 65 < cLine := by
    have := hr.un
    omega
  refine ⟨_, (pss_cons (ps_set (i := 1) sc__law_pool.nd rfl (.inl rfl) (pe_lst pa_nil))
        (pss_cons (ps_for PassesOwn.never rfl (pi_range1 (by rfl) m.range (pa_cons (pe_callB (min_K K rfl rfl hu5) (by rfl) m.min (by decide +kernel) (pa_cons pe_int (pa_cons (pe_callB (call_max2 rfl) (by rfl) m.max (by decide +kernel) (pa_cons pe_int (pa_cons (pe_callB (len_K K rfl) (by rfl) m.len PySem.boot_len (pa_cons (pv 0) pa_nil)) pa_nil))) pa_nil))) pa_nil)) (pg_name (i := 2) sc__law_pool.nd rfl (Or.inl rfl)) (pss_one (ps_set (i := 1) sc__law_pool.nd rfl (.inl rfl) (pe_op (op_addK K rfl) (pv 1) (pe_callD d__law_draws (hr.mono (by decide)) (by rfl) (pa_cons (pe_op (op_addK K rfl) (pe_callD d__law_cell (hr.mono (by decide)) (by rfl) (pa_cons (pv 0) (pa_cons (pv 2) pa_nil))) (pe_op op_mul pe_int (pv 2))) (pa_cons pe_int pa_nil)))))))
        (pss_one (ps_ret (pe_lst (pa_cons (pv 1) (pa_cons (pe_lst (pa_cons pe_int pa_nil)) pa_nil))))))), ?_⟩
  obtain ⟨ns, r, hl, q⟩ := h
  try dsimp only [cxOf, Cx.nox, Cx.wish]
  suffices hrun : Run K H _ [.im (lI ns), .no, .no] ⟨fun _ => False, Q, fun _ => False, fun _ => False⟩ from
    hrun H (Evl.Ex.refl H) _ _ H (start_sb (N := ["script", "rows", "k"]) r) (fun _ _ _ _ z => z.elim) (fun _ _ z => z) (fun _ _ _ _ z => z.elim) (fun _ _ _ _ z => z.elim)
  have hN : 1 ≤ poolN (ns.length : Int) ∧ poolN (ns.length : Int) ≤ 4 := by
    unfold poolN
    split <;> split <;> omega
  walk_at "setF"
  refine run_seq (run_for (rgI 0 (poolN (ns.length : Int)).toNat) .int (fun k => [(2, .int k)]) (its_rng1 (n := poolN (ns.length : Int)) (by walk_at "ev") (by omega)) (fun _ _ => tg_name)
    (fun i S' => ∃ (ms : List Int) (e2 : Sl), S' = [.im (lI ns), .ow (ms.map .int), e2] ∧ ms.length = 20 * i ∧ ∀ x ∈ ms, 0 ≤ x ∧ x < (4096 : Int)) ⟨[], _, rfl, rfl, fun _ h => by cases h⟩ ?_ ?_ ?_)
  · rintro i k S' _ ⟨ms, e2, rfl, _⟩ p hp
    rw [List.mem_singleton.mp hp]
    exact Nat.le_of_ble_eq_true rfl
  · rintro i k S' hk ⟨ms, e2, rfl, h1, h2⟩
    have hi : i < (poolN (ns.length : Int)).toNat := by
      obtain ⟨z, _⟩ := List.getElem?_eq_some_iff.mp hk
      rwa [rgI_length] at z
    rw [rgI_get hi] at hk
    cases hk
    change Run K H _ [.im (lI ns), .ow (ms.map .int), .im (.int (0 + (i : Int)))] _
    obtain ⟨d1, d2⟩ := draws_ok (ns.getD (0 + (i : Int)).toNat 0 + 7 * (0 + (i : Int)))
    have hlen : (ms.map PyData.int).length + ((draws (ns.getD (0 + (i : Int)).toNat 0 + 7 * (0 + (i : Int)))).map PyData.int).length ≤ 100000 := by
      rw [List.length_map, List.length_map, h1, d1]
      omega
    apply run_cat
    · exact rfl
    · walk_at "ev"
      all_goals (try walk_at "sd")
    · exact noLs_ints _
    · exact hlen
    · refine ⟨ms ++ draws (ns.getD (0 + (i : Int)).toNat 0 + 7 * (0 + (i : Int))), _, by rw [List.map_append]; rfl, by rw [List.length_append, h1, d1]; omega, fun x hx => ?_⟩
      rcases List.mem_append.mp hx with hx | hx
      · exact h2 x hx
      · exact d2 x hx
  · rintro S' ⟨ms, e2, rfl, h1, h2⟩
    rw [rgI_length] at h1
    exact run_pool (ms := ms) rfl fun l r c H' a1 a2 b1 b2 b3 b4 b5 b6 b7 => q l r c ms H' a1 a2 b1 b2 b3 b4 b5 b6 b7 (by omega) (by omega) h2
/-! _law_pick -/
def okPick : List D → Prop := fun ds => ∃ n : Int, ds = [.int n] ∧ 0 < n
def frPick : List D → D → Prop := fun ds d => ∃ n i : Int, ds = [.int n] ∧ d = .int i ∧ 0 ≤ i ∧ i < n
theorem ok__law_pick {f : Addr} {fd : FuncData} (F : Fun K "_law_pick" "_law_pick" s__law_pick f fd) (m : Bl mg) : FnOk P w K mg base CX0 1 f fd ["pool", "amount"] (spX K okPick frPick 1) := by
  refine F.ok sc__law_pick (fun vs H Q E h => ?_) (fun cdv A outer s H vs Q E hr h => ?_)
  · obtain ⟨l, c, at', ws, ds, rfl, _, _, rr, ⟨n, rfl, _⟩, _⟩ := h
    obtain ⟨w1, rfl, _⟩ := rp1 rr
    rfl
  obtain ⟨l, c, at', ws, ds, rfl, ⟨r, ns, g1, g2, g3, ne1, ne2, g4, g6, g7, g8⟩, hm, rr, ⟨n, rfl, hn⟩, q⟩ := h
  obtain ⟨w1, rfl, r1⟩ := rp1 rr
  obtain rfl := r1.int
  refine ⟨_, (pss_cons (ps_set (i := 2) sc__law_pick.nd rfl (.inl rfl) (pe_ix (ix_K K rfl) (pe_ix (ix_K K rfl) (pv 0) pe_int (fun _ _ => rfl)) pe_int (fun _ _ => rfl)))
        (pss_cons (ps_asg (pe_op (op_addK K rfl) (pv 2) pe_int) (pg_sub (pe_ix (ix_K K rfl) (pv 0) pe_int (fun _ _ => rfl)) pe_int set_list))
        (pss_cons (ps_set (i := 3) sc__law_pick.nd rfl (.inl rfl) (pe_op op_fdiv (pv 2) (pe_callB (len_K K rfl) (by rfl) m.len PySem.boot_len (pa_cons (pe_ix (ix_K K rfl) (pv 0) pe_int (fun _ _ => rfl)) pa_nil))))
        (pss_one (ps_ret (pe_op op_mod (pe_callTy call_int1 (by rfl) m.int (by decide +kernel) (pa_cons (pe_op (op_addK K rfl) (pe_op (op_addK K rfl) (pe_ix (ix_K K rfl) (pe_ix (ix_K K rfl) (pv 0) pe_int (fun _ _ => rfl)) (pe_op op_mod (pv 2) (pe_callB (len_K K rfl) (by rfl) m.len PySem.boot_len (pa_cons (pe_ix (ix_K K rfl) (pv 0) pe_int (fun _ _ => rfl)) pa_nil))) (fun _ _ => rfl)) (pe_op op_mul (pv 3) pe_int)) (pe_op op_mul (pv 3) (pv 2))) pa_nil)) (pv 1))))))), ?_⟩
  try dsimp only [cxOf, Cx.nox, Cx.wish]
  -- at = pool[1][0]
  refine ⟨.ref l, rfl, .inl ⟨l, [.ref r, .ref c], 1, .ref c, rfl, rfl, SqL.of g1, rfl, .inl ⟨c, [.int at'], 0, .int at', rfl, rfl, SqL.of g3, rfl, ?_⟩⟩⟩
  -- pool[1][0] = at + 1
  refine ⟨.int at', rfl, .inl ⟨at', 1, rfl, rfl, ⟨.ref l, rfl, .inl ⟨l, [.ref r, .ref c], 1, .ref c, rfl, rfl, SqL.of g1, rfl, ⟨c, [.int at'], 0, 0, rfl, rfl, g3, rfl, ?_⟩⟩⟩⟩⟩
  generalize hH1 : upd H c (.lst (List.set [.int at'] 0 (.int (at' + 1)))) = H1
  have k1 : H1 l = some (.lst [.ref r, .ref c]) := by rw [← hH1, upd_ne ne1]; exact g1
  have k2 : H1 r = some (.lst (ns.map .int)) := by rw [← hH1, upd_ne ne2]; exact g2
  have k3 : H1 c = some (.lst [.int (at' + 1)]) := by rw [← hH1, upd_same]; rfl
  have k4 : ∀ a o, a ≠ c → H a = some o → H1 a = some o := fun a o h e => by rw [← hH1, upd_ne h]; exact e
  have hlen : (ns.map V.int).length = ns.length := List.length_map ..
  -- turn = at // len(pool[0])
  refine ⟨.int at', rfl, ⟨.ref l, rfl, .inl ⟨l, [.ref r, .ref c], 0, .ref r, rfl, rfl, SqL.of k1, rfl, ⟨r, ns.map .int, rfl, .inl (SqL.of k2), ⟨at', ((ns.map V.int).length : Int), rfl, rfl, ⟨by rw [hlen]; omega, by rw [hlen]; omega⟩, ?_⟩⟩⟩⟩⟩
  rw [hlen]
  have n0 : (0 : Int) < (ns.length : Int) := by omega
  have t0 : 0 ≤ at' / (ns.length : Int) := Int.ediv_nonneg g4 (Int.le_of_lt n0)
  have t1 : at' / (ns.length : Int) ≤ at' := Int.ediv_le_self _ g4
  have m0 := Int.emod_nonneg at' (Int.ne_of_gt n0)
  have m1 := Int.emod_lt_of_pos at' n0
  have hat : atI (ns.map V.int) (at' % (ns.length : Int)) = some (.int (ns.getD (at' % (ns.length : Int)).toNat 0)) := atI_map (atI_int 0 m0 m1)
  -- the drawn number
  refine ⟨.ref l, rfl, .inl ⟨l, [.ref r, .ref c], 0, .ref r, rfl, rfl, SqL.of k1, rfl, ⟨.int at', rfl, ⟨.ref l, rfl, .inl ⟨l, [.ref r, .ref c], 0, .ref r, rfl, rfl, SqL.of k1, rfl, ⟨r, ns.map .int, rfl, .inl (SqL.of k2), ⟨at', ((ns.map V.int).length : Int), rfl, rfl, by rw [hlen]; exact n0, ?_⟩⟩⟩⟩⟩⟩⟩
  rw [hlen]
  refine .inl ⟨r, ns.map .int, _, _, rfl, rfl, SqL.of k2, hat, ?_⟩
  refine ⟨_, rfl, _, _, rfl, rfl, .inr ⟨by decide, by decide⟩, .inl ⟨_, _, rfl, rfl, ⟨_, rfl, _, rfl, _, _, rfl, rfl, .inl ⟨by omega, by omega⟩, .inl ⟨_, _, rfl, rfl, .inl ⟨_, rfl, ⟨_, rfl, _, _, rfl, rfl, hn, ?_⟩⟩⟩⟩⟩⟩
  refine q _ _ H1 (at' + 1) ⟨n, _, rfl, rfl, Int.emod_nonneg _ (by omega), Int.emod_lt_of_pos _ hn⟩ rfl (.int _) k4 k3 (by omega) (by omega)

/-! inversions -/
def frInvs : List D → D → Prop := fun ds d => ∃ xs : List Int, ds = [tI xs] ∧ xs.length ≤ 100 ∧ d = .int (invF xs)
theorem ok_inversions {f : Addr} {fd : FuncData} (F : Fun K "inversions" "inversions" s_inversions f fd) (m : Bl mg) : FnOk P w K mg base CX0 1 f fd ["order"] (spR K frInvs) := by
  refine def_R F sc_inversions frInvs (fun ds d ⟨_, h, _⟩ => by rw [h]; rfl) fun cdv A outer s H E hr => ⟨_, (pss_one (ps_ret (pe_callB (len_K K rfl) (by rfl) m.len PySem.boot_len (pa_cons (pe_lc2 (own := [("j", 1), ("k", 2)]) (vs1 := [2]) rfl sc_inversions.nd (pi_range1 (by rfl) m.range (pa_cons (pe_callB (len_K K rfl) (by rfl) m.len PySem.boot_len (pa_cons (pv 0) pa_nil)) pa_nil)) (blkOk_by (N := ["order", "j", "k"]) (sc := defScope s_inversions) (by decide +kernel)) (by decide) (fun _ _ _ _ _ => (pg_name (i := 1) sc_inversions.nd rfl (Or.inl rfl))) (fun _ _ _ _ _ => pts_nil) (fun _ _ _ _ _ => (pi_range1 (by rfl) m.range (pa_cons (pv 1) pa_nil))) (fun _ _ _ _ _ => (pg_name (i := 2) sc_inversions.nd rfl (Or.inl rfl))) (fun _ _ _ _ _ => (pts_one (pt_cmpR op_gt (pe_ix (ix_K K rfl) (pv 0) (pv 2) (fun _ _ => rfl)) (pe_ix (ix_K K rfl) (pv 0) (pv 1) (fun _ _ => rfl)) (nomark _)))) (fun _ _ _ _ _ => pe_int)) pa_nil)))), fun ds d ⟨xs, h1, hl, h2⟩ B => ?_⟩
  subst h1 h2
  try dsimp only [cxOf, Cx.nox, Cx.wish]
  change Run K B _ [.im (tI xs), .no, .no] _
  have hlen : ∀ i, (((rgI 0 xs.length).take i).flatMap fun j => ((rgI 0 j.toNat).filter fun k => decide (xs.getD j.toNat 0 < xs.getD k.toNat 0)).map fun _ => PyData.int 1).length ≤ 50000 := fun i => by
    have h1 := flat_len (c := 100) (f := fun j : Int => ((rgI 0 j.toNat).filter fun k => decide (xs.getD j.toNat 0 < xs.getD k.toNat 0)).map fun _ => PyData.int 1) ((rgI 0 xs.length).take i) fun a ha => by
      have := mem_rgI.mp (List.mem_of_mem_take ha)
      rw [List.length_map]
      refine Nat.le_trans (List.length_filter_le _ _) ?_
      rw [rgI_length]
      omega
    have h2 : ((rgI 0 xs.length).take i).length ≤ 100 := by rw [List.length_take, rgI_length]; omega
    omega
  refine ret_R (EvR.to (ev_cbR (eas_cons (EvF.r (ef_lc2 (rgI 0 xs.length) .int (fun x => [(1, .int x)]) (fun j => rgI 0 j.toNat) (fun _ => .int) (fun _ x => [(2, .int x)]) (fun j k => decide (xs.getD j.toNat 0 < xs.getD k.toNat 0)) (fun _ _ => .int 1) (it_rng1 (n := xs.length) (by walk_at "ev") (by omega)) (fun _ _ => tg_name) (fun _ _ p hp => by
      rw [List.mem_singleton.mp hp]; simp) (fun a ha => itm_rng1 (n := a) (by walk_at "ev") (by have := mem_rgI.mp ha; omega)) (fun _ _ _ _ => tg_name) (fun _ _ _ _ p hp => by
      rw [List.mem_singleton.mp hp]; simp) (fun a ha b hb => ?_) (fun _ _ _ _ _ => em_R rfl (by walk_at "ev")) hlen (fun a ha => by rw [rgI_length]; have := mem_rgI.mp ha; omega))) eas_nil) rc_lenL) ?_)
  · have h1 := mem_rgI.mp ha
    have h2 := mem_rgI.mp hb
    walk_at "ev" <;> omega
  · congr 2
    rw [List.length_flatMap, List.length_flatMap]
    simp
/-! shortest_for -/
def frShort : List D → D → Prop := fun ds d => ∃ (xs w : List Int), ds = [tI xs] ∧ (xs.length ≤ 100 ∧ sfR 64 xs = some w) ∧ d = tI w
theorem ok_shortest_for {f : Addr} {fd : FuncData} (F : Fun K "shortest_for" "shortest_for" s_shortest_for f fd) (m : Bl mg) : FnOk P w K mg base CX0 1 f fd ["order"] (spR K frShort) := by
  refine def_R F sc_shortest_for frShort (fun ds d ⟨_, _, h, _⟩ => by rw [h]; rfl) fun cdv A outer s H E hr => ⟨_, (pss_cons (ps_set (i := 1) sc_shortest_for.nd rfl (.inr rfl) (pe_callTy (listOf_K K rfl) (by rfl) m.list (by decide +kernel) (pa_cons (pv 0) pa_nil)))
        (pss_cons (ps_set (i := 2) sc_shortest_for.nd rfl (.inl rfl) (pe_lst pa_nil))
        (pss_one (ps_while PassesOwn.never (pt_val pe_bl) (pss_cons (ps_setLc (own := [("k", 4)]) (i := 3) rfl sc_shortest_for.nd rfl rfl (sw_true rfl rfl rfl (by decide +kernel)) (pi_range1 (by rfl) m.range (pa_cons (pe_op op_sub (pe_callB (len_K K rfl) (by rfl) m.len PySem.boot_len (pa_cons (pv 1) pa_nil)) pe_int) pa_nil)) (blkOk_by (N := ["order", "row", "found", "falls", "k"]) (sc := defScope s_shortest_for) (by decide +kernel)) (fun _ _ _ _ _ => (pg_name (i := 4) sc_shortest_for.nd rfl (Or.inl rfl))) (fun _ _ _ _ _ => (pts_one (pt_cmpR op_gt (pe_ix (ix_K K rfl) (pv 1) (pv 4) (fun _ _ => rfl)) (pe_ix (ix_K K rfl) (pv 1) (pe_op (op_addK K rfl) (pv 4) pe_int) (fun _ _ => rfl)) (nomark _)))) (fun _ _ _ _ _ => (pv 4)))
        (pss_cons (ps_if (pt_cmpR (op_eqK K rfl hr.units) (pe_callB (len_K K rfl) (by rfl) m.len PySem.boot_len (pa_cons (pv 3) pa_nil)) pe_int (nomark _)) (pss_one (ps_ret (pe_callTy (tupOf_K K rfl) (by rfl) m.tuple (by decide +kernel) (pa_cons (pv 2) pa_nil)))) pss_nil)
        (pss_cons (ps_set (i := 4) sc_shortest_for.nd rfl (.inl rfl) (pe_ix (ix_K K rfl) (pv 3) pe_int (fun _ _ => rfl)))
        (pss_cons (ps_asg (KW.pe_tup (pa_cons (pe_ix (ix_K K rfl) (pv 1) (pe_op (op_addK K rfl) (pv 4) pe_int) (fun _ _ => rfl)) (pa_cons (pe_ix (ix_K K rfl) (pv 1) (pv 4) (fun _ _ => rfl)) pa_nil))) (tup_K K rfl rfl (pgs_cons (pg_sub (pv 1) (pv 4) set_list) (pgs_cons (pg_sub (pv 1) (pe_op (op_addK K rfl) (pv 4) pe_int) set_list) pgs_nil))))
        (pss_one (ps_expr (pe_bm PySem.F.plainAttrs_list PySem.F.slot_list_append PySem.F.type_list_append mt_append (pv 2) (pa_cons (pe_op (op_addK K rfl) (pv 4) pe_int) pa_nil)))))))))))), fun ds d ⟨xs, w, h1, ⟨hl, he⟩, h2⟩ B => ?_⟩
  subst h1 h2
  try dsimp only [cxOf, Cx.nox, Cx.wish]
  change Run K B _ [.im (tI xs), .no, .no, .no, .no] _
  refine run_seq (run_setF (ds := xs.map .int) (ef_listT (ev_var rfl)) (noLs_ints _) (Nat.le_of_ble_eq_true rfl) ?_)
  dsimp only [List.set]
  refine run_seq (run_setF (ds := []) (ef_lstR eas_nil rfl) rfl (Nat.le_of_ble_eq_true rfl) ?_)
  dsimp only [List.set]
  refine run_while (fun m S' => ∃ (row found rest : List Int) (e3 e4 : Sl), S' = [.im (tI xs), .ow (row.map .int), .ow (found.map .int), e3, e4] ∧ row.length ≤ 100 ∧ found.length + m = 64 ∧ sfR m row = some rest ∧ found ++ rest = w) 64 ⟨xs, [], w, _, _, rfl, hl, rfl, he, rfl⟩ ?_
  rintro m S' ⟨row, found, rest, e3, e4, rfl, hrl, hfl, hs, hcat⟩
  refine ⟨true, by walk_at "ev", fun _ => ?_, fun z => by cases z⟩
  obtain ⟨g, rfl⟩ : ∃ g, m = g + 1 := by
    cases m with
    | zero => cases hs
    | succ g => exact ⟨g, rfl⟩
  unfold sfR at hs
  refine run_seq (run_setFi (ds := (fallsF row).map .int) (ef_lc (rgI 0 ((row.length : Int) - 1).toNat) .int (fun x => [(4, .int x)]) (fun k => decide (row.getD (k + 1).toNat 0 < row.getD k.toNat 0)) .int (it_rng1 (n := (row.length : Int) - 1) (eas_cons (ev_opR (d := .int (row.length : Int)) (EvR.to (ev_cbR (eas_cons (ev_var rfl) eas_nil) rc_lenL) (by rw [List.length_map])) ev_int rv_sub) eas_nil) (by omega)) (fun _ _ => tg_name) (fun _ _ p hp => by
      rw [List.mem_singleton.mp hp]; simp) (fun a ha => ?_) (fun a ha _ => em_R rfl (by walk_at "ev")) (by rw [rgI_length]; omega)) (noLs_ints _) (Nat.le_of_ble_eq_true rfl) ?_)
  · have := mem_rgI.mp ha
    walk_at "ev" <;> omega
  dsimp only [List.set]
  have hmem : ∀ k ∈ fallsF row, 0 ≤ k ∧ k + 1 < row.length := fun k hk => mem_falls hk
  generalize fallsF row = falls at hs hmem ⊢
  refine run_seq (run_if (b := decide ((falls.length : Int) = 0)) (by walk_at "ev") (fun h => ?_) fun h => run_nx ?_)
  · have h := of_decide_eq_true h
    have : falls = [] := List.length_eq_zero_iff.mp (by omega)
    subst this
    cases hs
    rw [List.append_nil] at hcat
    subst hcat
    exact ret_R (EvR.to (ev_cbR (eas_cons (ev_var rfl) eas_nil) rc_tupL) rfl)
  · have h := of_decide_eq_false h
    match falls, h, hs, hmem with
    | [], h, _, _ => exact absurd rfl h
    | k :: t, _, hs, hmem =>
      have hk := hmem k (by simp)
      obtain ⟨w', hw', e⟩ : ∃ w', sfR g (swapI row k.toNat) = some w' ∧ rest = (k + 1) :: w' := by
        cases h : sfR g (swapI row k.toNat) with
        | none => dsimp only at hs; rw [h] at hs; cases hs
        | some w' => dsimp only at hs; rw [h] at hs; cases hs; exact ⟨w', rfl, rfl⟩
      change Run K B _ [.im (tI xs), .ow (row.map .int), .ow (found.map .int), .im (.list ((k :: t).map .int)), e4] _
      refine run_seq (run_setR (d := .int k) (ev_opR (ev_var rfl) ev_int (rv_ixL (atI_nat (j := 0) rfl))) rfl (Nat.le_of_ble_eq_true rfl) ?_)
      dsimp only [List.set]
      apply run_seq
      refine run_swap (i := 1) (ds := row.map .int) (d1 := .int (row.getD (k + 1).toNat 0)) (d2 := .int (row.getD k.toNat 0)) (k1 := k) (k2 := k + 1) (j1 := k.toNat) (j2 := (k + 1).toNat) rfl ?_ ?_ rfl rfl (ev_var rfl) (ixN_ok (by omega) (by rw [List.length_map]; omega)) ?_ (ixN_ok (by omega) (by rw [List.length_map]; omega)) ?_
      · walk_at "ev" <;> omega
      · walk_at "ev" <;> omega
      · walk_at "ev"
      dsimp only [List.set]
      rw [set_ints, set_ints, show (k + 1).toNat = k.toNat + 1 by omega]
      refine run_app (d := .int (k + 1)) rfl (by walk_at "ev") rfl (by rw [List.length_map]; omega) ?_
      dsimp only [List.set]
      rw [show found.map PyData.int ++ [.int (k + 1)] = (found ++ [k + 1]).map .int by rw [List.map_append]; rfl]
      exact ⟨g, by omega, swapI row k.toNat, found ++ [k + 1], w', _, _, rfl, by rw [swap_length]; exact hrl, by rw [List.length_append]; show found.length + 1 + g = 64; omega, hw', by rw [List.append_assoc]; rw [← hcat, e]; rfl⟩
/-! is_positive, length_of, of_plain -/
def frPos : List D → D → Prop := fun ds d => ∃ (n : Int) (w : List Int) (r : Int × List (List Int)), ds = [.int n, tI w] ∧ (2 ≤ n ∧ n ≤ 100 ∧ w.length ≤ 200 ∧ okW n w ∧ plR n w = some r) ∧ d = .bool (decide (0 ≤ r.1))
theorem ok_is_positive {f : Addr} {fd : FuncData} (F : Fun K "is_positive" "is_positive" s_is_positive f fd) (m : Bl mg) (d_plain : DefOk P w K mg base "plain" ["n", "braid"] 4 (spR K frPlain)) : FnOk P w K mg base CX0 5 f fd ["n", "braid"] (spR K frPos) := by
  refine def_R F sc_is_positive frPos (fun ds d ⟨_, _, _, h, _⟩ => by rw [h]; rfl) fun cdv A outer s H E hr => ⟨_, (pss_one (ps_ret (pe_cmpR op_ge (pe_ix (ix_K K rfl) (pe_callD d_plain (hr.mono (by decide)) (by rfl) (pa_cons (pv 0) (pa_cons (pv 1) pa_nil))) pe_int (fun _ _ => rfl)) pe_int (nomark _)))), fun ds d ⟨n, w, r, h1, hp, h2⟩ B => ?_⟩
  subst h1 h2
  try dsimp only [cxOf, Cx.nox, Cx.wish]
  change Run K B _ [.im (.int n), .im (tI w)] _
  exact ret_R (ev_opR (ev_opR (ev_call (by walk_at "ev") ⟨n, w, r, rfl, hp, rfl⟩) ev_int (rv_ixT (atI_nat (j := 0) rfl))) ev_int rv_ge)
def frLen : List D → D → Prop := fun ds d => ∃ (n : Int) (w : List Int) (r : Int × List (List Int)), ds = [.int n, tI w] ∧ (2 ≤ n ∧ n ≤ 5 ∧ w.length ≤ 200 ∧ okW n w ∧ plR n w = some r ∧ -1000 ≤ r.1 ∧ r.1 ≤ 1000 ∧ r.2.length ≤ 1000 ∧ ∀ x ∈ r.2, x.length ≤ 100) ∧ d = .int (lenF n r)
theorem ok_length_of {f : Addr} {fd : FuncData} (F : Fun K "length_of" "length_of" s_length_of f fd) (m : Bl mg) (d_plain : DefOk P w K mg base "plain" ["n", "braid"] 4 (spR K frPlain)) (d_half : DefOk P w K mg base "half" ["n"] 1 (spR K frHalf)) (d_inversions : DefOk P w K mg base "inversions" ["order"] 1 (spR K frInvs)) :
    FnOk P w K mg base CX0 5 f fd ["n", "braid"] (spR K frLen) := by
  refine def_R F sc_length_of frLen (fun ds d ⟨_, _, _, h, _⟩ => by rw [h]; rfl) fun cdv A outer s H E hr => ⟨_, (pss_cons (ps_asg (pe_callD d_plain (hr.mono (by decide)) (by rfl) (pa_cons (pv 0) (pa_cons (pv 1) pa_nil))) (tup_K K rfl rfl (pgs_cons (pg_name (i := 2) sc_length_of.nd rfl (Or.inl rfl)) (pgs_cons (pg_name (i := 3) sc_length_of.nd rfl (Or.inl rfl)) pgs_nil))))
        (pss_one (ps_ret (pe_op (op_addK K rfl) (pe_op op_mul (pe_callB call_abs (by rfl) m.abs (by decide +kernel) (pa_cons (pv 2) pa_nil)) (pe_callB (len_K K rfl) (by rfl) m.len PySem.boot_len (pa_cons (pe_callD d_half (hr.mono (by decide)) (by rfl) (pa_cons (pv 0) pa_nil)) pa_nil))) (pe_callB (sum_K K rfl rfl) (by rfl) m.sum (by decide +kernel) (pa_cons (pe_lc (own := [("row", 4)]) rfl sc_length_of.nd (seq_K K rfl (pv 3)) (blkOk_by (N := ["n", "braid", "count", "rows", "row"]) (sc := defScope s_length_of) (by decide +kernel)) (fun _ _ _ _ _ => (pg_name (i := 4) sc_length_of.nd rfl (Or.inl rfl))) (fun _ _ _ _ _ => pts_nil) (fun _ _ _ _ _ => (pe_callD d_inversions (hr.mono (by decide)) (by rfl) (pa_cons (pv 4) pa_nil)))) pa_nil)))))), fun ds d ⟨n, w, r, h1, ⟨a1, a2, a3, a4, a5, a6, a7, a8, a9⟩, h2⟩ B => ?_⟩
  subst h1 h2
  try dsimp only [cxOf, Cx.nox, Cx.wish]
  change Run K B _ [.im (.int n), .im (tI w), .no, .no, .no] _
  refine run_seq (run_unpack (d := fD r) (js := [(2, .int r.1), (3, .tuple (r.2.map tI))]) (ev_call (by walk_at "ev") ⟨n, w, r, rfl, ⟨a1, by omega, a3, a4, a5⟩, rfl⟩) (noL_fD r) (tg_tup (tgl_cons tg_name (tgl_cons tg_name tgl_nil)) rfl) (fun p hp => by
    simp only [List.mem_cons, List.not_mem_nil, or_false] at hp
    rcases hp with rfl | rfl <;> exact Nat.le_of_ble_eq_true rfl) ?_)
  change Run K B _ [.im (.int n), .im (tI w), .im (.int r.1), .im (.tuple (r.2.map tI)), .no] _
  refine ret_R (ev_opR (ev_opR (ev_cbR (eas_cons (ev_var rfl) eas_nil) rc_abs) (ev_cbR (eas_cons (ev_call (by walk_at "ev") ⟨n, rfl, ⟨a1, a2⟩, rfl⟩) eas_nil) rc_lenTI) (rv_mul (.inl ?_)))
    (ev_cbR (ds := [lI (r.2.map invF)]) (eas_cons (EvF.r (EvF.to (ef_lc r.2 tI (fun x => [(4, tI x)]) (fun _ => true) (fun x => .int (invF x)) (it_seqT (ev_var rfl)) (fun _ _ => tg_name) (fun _ _ p hp => by
      rw [List.mem_singleton.mp hp]; simp) (fun a ha => fun σ H E Q q => q H (Evl.Ex.refl H)) (fun a ha _ => em_R rfl (ev_call (by walk_at "ev") ⟨a, rfl, a9 a ha, rfl⟩)) (by omega)) ?_)) eas_nil) rc_sum) rv_add)
  · split <;> omega
  · rw [List.filter_eq_self.mpr (fun _ _ => rfl), List.map_map]
    rfl
def frOf : List D → D → Prop := fun ds d => ∃ (n : Int) (s : Int × List (List Int)), ds = [.int n, fD s] ∧ (2 ≤ n ∧ n ≤ 5 ∧ (s.1 = 0 ∨ s.1 = 1) ∧ s.2.length ≤ 10 ∧ ∀ x ∈ s.2, x.length ≤ 100 ∧ (sfR 64 x).isSome = true) ∧ d = tI (ofW n s)
theorem half_ne {n : Int} (h : 2 ≤ n ∧ n ≤ 5) : halfF n ≠ [] := by
  obtain ⟨m, rfl⟩ : ∃ m : Nat, n = (m : Int) + 2 := ⟨(n - 2).toNat, by omega⟩
  have hm : m < 4 := by omega
  rcases m with _ | _ | _ | _ | m
  · decide +kernel
  · decide +kernel
  · decide +kernel
  · decide +kernel
  · omega
theorem half_le {n : Int} (h : 2 ≤ n ∧ n ≤ 5) : (halfF n).length ≤ 10 := by
  obtain ⟨m, rfl⟩ : ∃ m : Nat, n = (m : Int) + 2 := ⟨(n - 2).toNat, by omega⟩
  have hm : m < 4 := by omega
  rcases m with _ | _ | _ | _ | m
  · decide +kernel
  · decide +kernel
  · decide +kernel
  · decide +kernel
  · omega
theorem ok_of_plain {f : Addr} {fd : FuncData} (F : Fun K "of_plain" "of_plain" s_of_plain f fd) (m : Bl mg) (d_half : DefOk P w K mg base "half" ["n"] 1 (spR K frHalf)) (d_back : DefOk P w K mg base "back" ["braid"] 1 (spR K frBack)) (d_shortest_for : DefOk P w K mg base "shortest_for" ["order"] 1 (spR K frShort)) :
    FnOk P w K mg base CX0 2 f fd ["n", "form"] (spR K frOf) := by
  refine def_R F sc_of_plain frOf (fun ds d ⟨_, _, h, _⟩ => by rw [h]; rfl) fun cdv A outer s H E hr => ⟨_, (pss_cons (ps_asg (pv 1) (tup_K K rfl rfl (pgs_cons (pg_name (i := 2) sc_of_plain.nd rfl (Or.inl rfl)) (pgs_cons (pg_name (i := 3) sc_of_plain.nd rfl (Or.inl rfl)) pgs_nil))))
        (pss_cons (ps_set (i := 4) sc_of_plain.nd rfl (.inl rfl) (pe_ifExp (pt_cmpR op_ge (pv 2) pe_int (nomark _)) (pe_callD d_half (hr.mono (by decide)) (by rfl) (pa_cons (pv 0) pa_nil)) (pe_callD d_back (hr.mono (by decide)) (by rfl) (pa_cons (pe_callD d_half (hr.mono (by decide)) (by rfl) (pa_cons (pv 0) pa_nil)) pa_nil))))
        (pss_one (ps_ret (pe_op (op_addK K rfl) (pe_op op_rep01 (pv 4) (pe_callB call_abs (by rfl) m.abs (by decide +kernel) (pa_cons (pv 2) pa_nil))) (pe_callTy (tupOf_K K rfl) (by rfl) m.tuple (by decide +kernel) (pa_cons (pe_lc2 (own := [("row", 5), ("x", 6)]) (vs1 := [6]) rfl sc_of_plain.nd (seq_K K rfl (pv 3)) (blkOk_by (N := ["n", "form", "count", "rows", "turn", "row", "x"]) (sc := defScope s_of_plain) (by decide +kernel)) (by decide) (fun _ _ _ _ _ => (pg_name (i := 5) sc_of_plain.nd rfl (Or.inl rfl))) (fun _ _ _ _ _ => pts_nil) (fun _ _ _ _ _ => (seq_K K rfl (pe_callD d_shortest_for (hr.mono (by decide)) (by rfl) (pa_cons (pv 5) pa_nil)))) (fun _ _ _ _ _ => (pg_name (i := 6) sc_of_plain.nd rfl (Or.inl rfl))) (fun _ _ _ _ _ => pts_nil) (fun _ _ _ _ _ => (pv 6))) pa_nil))))))), fun ds d ⟨n, s, h1, ⟨a1, a2, a3, a4, a5⟩, h2⟩ B => ?_⟩
  subst h1 h2
  try dsimp only [cxOf, Cx.nox, Cx.wish]
  obtain ⟨c, rows⟩ := s
  change Run K B _ [.im (.int n), .im (fD (c, rows)), .no, .no, .no, .no, .no] _
  refine run_seq (run_unpack (d := fD (c, rows)) (js := [(2, .int c), (3, .tuple (rows.map tI))]) (ev_var rfl) (noL_fD _) (tg_tup (tgl_cons tg_name (tgl_cons tg_name tgl_nil)) rfl) (fun p hp => by
    simp only [List.mem_cons, List.not_mem_nil, or_false] at hp
    rcases hp with rfl | rfl <;> exact Nat.le_of_ble_eq_true rfl) ?_)
  change Run K B _ [.im (.int n), .im (fD (c, rows)), .im (.int c), .im (.tuple (rows.map tI)), .no, .no, .no] _
  have a3 : c = 0 ∨ c = 1 := a3
  have hc0 : (0 : Int) ≤ c := by omega
  refine run_seq (run_setR (d := tI (halfF n)) (ev_if (b := true) (EvB.to (b := decide (0 ≤ c)) (by walk_at "ev") (decide_eq_true hc0)) (fun _ => ev_call (by walk_at "ev") ⟨n, rfl, ⟨a1, a2⟩, rfl⟩) (fun z => by cases z)) (noL_tI _) (Nat.le_of_ble_eq_true rfl) ?_)
  dsimp only [List.set]
  have hne : (halfF n).map PyData.int ≠ [] := fun z => half_ne ⟨a1, a2⟩ (List.map_eq_nil_iff.mp z)
  have hlen : ∀ i, ((rows.take i).flatMap fun a => ((sfW a).filter fun _ => true).map PyData.int).length ≤ 1000 := fun i => by
    have h1 := flat_len (c := 64) (f := fun a => ((sfW a).filter fun _ => true).map PyData.int) (rows.take i) fun a ha => by
      rw [map_if, List.length_map]
      unfold sfW
      cases e : sfR 64 a with
      | none => exact Nat.zero_le _
      | some w => have := sf_length 64 e; show w.length ≤ 64; omega
    have h2 : (rows.take i).length ≤ 10 := by rw [List.length_take]; have a4 : rows.length ≤ 10 := a4; omega
    omega
  have hflat : (rows.flatMap fun a => ((sfW a).filter fun _ => true).map PyData.int) = (rows.flatMap sfW).map .int := by
    rw [List.map_flatMap]
    simp only [map_if]
  have hl2 : ((rows.flatMap sfW).map PyData.int).length ≤ 1000 := by
    have := hlen rows.length
    rw [List.take_length, hflat] at this
    exact this
  have hh := half_le ⟨a1, a2⟩
  have htail : EvR K (tCB (rTupOf K) (tCons (tLc2 (iSeq K (tVar 3)) (gName 5) tYes (iSeq K (tCall (spR K frShort) [] E0 (tCons (tVar 5) tNil))) (gName 6) tYes (tVar 6) [5, 6] [6]) tNil)) (gm [.im (.int n), .im (fD (c, rows)), .im (.int c), .im (.tuple (rows.map tI)), .im (tI (halfF n)), .no, .no]) (.tuple ((rows.flatMap sfW).map .int)) := by
    refine EvR.to (ev_cbR (eas_cons (EvF.r (ef_lc2 rows tI (fun x => [(5, tI x)]) sfW (fun _ => .int) (fun _ x => [(6, .int x)]) (fun _ _ => true) (fun _ k => .int k) (it_seqT (ev_var rfl)) (fun _ _ => tg_name) (fun _ _ p hp => by
      rw [List.mem_singleton.mp hp]; simp) (fun a ha => itm_seqT (ev_call (d := tI (sfW a)) (by walk_at "ev") ?_) (noLs_ints _)) (fun _ _ _ _ => tg_name) (fun _ _ _ _ p hp => by
      rw [List.mem_singleton.mp hp]; simp) (fun _ _ _ _ => fun σ H E Q q => q H (Evl.Ex.refl H)) (fun _ _ _ _ _ => em_R rfl (by walk_at "ev")) (fun i => Nat.le_trans (hlen i) (by decide)) (fun a ha => ?_))) eas_nil) rc_tupL) (by rw [hflat])
    · obtain ⟨q1, q2⟩ := a5 a ha
      refine ⟨a, sfW a, rfl, ⟨q1, ?_⟩, rfl⟩
      unfold sfW
      cases e : sfR 64 a with
      | none => rw [e] at q2; cases q2
      | some w => rfl
    · unfold sfW
      cases e : sfR 64 a with
      | none => exact Nat.zero_le _
      | some w => have := sf_length 64 e; show w.length ≤ _; omega
  rcases a3 with rfl | rfl
  · refine ret_R (EvR.to (ev_opR (ev_opR (ev_var rfl) (ev_cbR (eas_cons (ev_var rfl) eas_nil) rc_abs) (rv_rep0 hne)) htail (rv_addT ?_)) ?_)
    · rw [List.length_nil]; omega
    · show PyData.tuple ([] ++ (rows.flatMap sfW).map .int) = tI (ofW n (0, rows))
      rw [ofW, if_pos rfl]
      rfl
  · refine ret_R (EvR.to (ev_opR (ev_opR (ev_var rfl) (ev_cbR (eas_cons (ev_var rfl) eas_nil) rc_abs) (rv_rep1 hne)) htail (rv_addT ?_)) ?_)
    · rw [List.length_map]; omega
    · show PyData.tuple ((halfF n).map .int ++ (rows.flatMap sfW).map .int) = tI (ofW n (1, rows))
      rw [ofW, if_neg (show ¬ ((1 : Int) = 0) by decide), tI, List.map_append]
/-! _law_drawn_order -/
def okDo : List D → Prop := fun ds => ∃ n : Int, ds = [.int n] ∧ 2 ≤ n ∧ n ≤ 100
def frDo : List D → D → Prop := fun ds d => ∃ (n : Int) (xs : List Int), ds = [.int n] ∧ d = tI xs ∧ xs.Perm (idF n.toNat)
theorem ok__law_drawn_order {f : Addr} {fd : FuncData} (F : Fun K "_law_drawn_order" "_law_drawn_order" s__law_drawn_order f fd) (m : Bl mg) (d__law_pick : DefOk P w K mg base "_law_pick" ["pool", "amount"] 1 (spX K okPick frPick 1)) : FnOk P w K mg base CX0 2 f fd ["pool", "n"] (spX K okDo frDo 100) := by
  refine def_X F sc__law_drawn_order okDo frDo (fun ds ⟨n, h, _⟩ => ⟨[n], h, rfl⟩) (Nat.le_of_ble_eq_true rfl) fun cdv A outer s H E hr => ⟨_, (pss_cons (ps_par (i := 2) (j := 3) rfl sc__law_drawn_order.nd rfl rfl (by decide) rfl rfl (pa_cons (pe_listRg rfl (by rfl) m.list (prg_1 (by rfl) m.range (pv 1))) (pa_cons (KW.pe_tup pa_nil) pa_nil)) (by rfl))
        (pss_cons (ps_for PassesOwn.never rfl (pi_range1 (by rfl) m.range (pa_cons (pv 1) pa_nil)) (pg_name (i := 4) sc__law_drawn_order.nd rfl (Or.inl rfl)) (pss_one (ps_set (i := 3) sc__law_drawn_order.nd rfl (.inl rfl) (pe_op (op_addK K rfl) (pv 3) (KW.pe_tup (pa_cons (pe_bm PySem.F.plainAttrs_list PySem.F.slot_list_pop PySem.F.type_list_pop mt_popAt (pv 2) (pa_cons (pe_callD d__law_pick (hr.mono (by decide)) (by rfl) (pa_cons (pv 0) (pa_cons (pe_callB (len_K K rfl) (by rfl) m.len PySem.boot_len (pa_cons (pv 2) pa_nil)) pa_nil))) pa_nil)) pa_nil))))))
        (pss_one (ps_ret (pv 3))))), fun l c m ns hm hok B => ?_⟩
  obtain ⟨n, hn, h2, h3⟩ := hok
  obtain ⟨n', rfl⟩ : ∃ n', ns = [n'] := by
    match ns, hn with
    | [n'], _ => exact ⟨n', rfl⟩
  cases hn
  try dsimp only [cxOf, Cx.nox, Cx.wish]
  change Run K B _ [.pl l c m, .im (.int n), .no, .no, .no] _
  refine run_seq (run_parFR (ds := (idF n.toNat).map .int) (d2 := tI []) (KW.ef_listRg1 (ev_var rfl) (by omega)) (ev_tupR eas_nil rfl) (noLs_ints _) rfl (Nat.le_of_ble_eq_true rfl) (Nat.le_of_ble_eq_true rfl) ?_)
  dsimp only [List.set]
  refine run_seq (run_for (rgI 0 n.toNat) .int (fun x => [(4, .int x)]) (its_rng1 (n := n) (by walk_at "ev") (by omega)) (fun _ _ => tg_name)
    (fun i S' => ∃ (left xs : List Int) (e4 : Sl), S' = [.pl l c (m + i), .im (.int n), .ow (left.map .int), .im (tI xs), e4] ∧ left.length + i = n.toNat ∧ xs.length = i ∧ (xs ++ left).Perm (idF n.toNat)) ⟨_, [], _, rfl, by rw [(isP_id _).1]; rfl, rfl, List.Perm.refl _⟩ ?_ ?_ ?_)
  · rintro i k S' _ ⟨_, _, _, rfl, _⟩ p hp
    rw [List.mem_singleton.mp hp]
    exact Nat.le_of_ble_eq_true rfl
  · rintro i k S' hk ⟨left, xs, e4, rfl, hl, hx, hp⟩
    have hi : i < n.toNat := by
      obtain ⟨z, _⟩ := List.getElem?_eq_some_iff.mp hk
      rwa [rgI_length] at z
    change Run K B _ [.pl l c (m + i), .im (.int n), .ow (left.map .int), .im (tI xs), .im (.int k)] _
    refine run_setW (xw_op (d0 := tI xs) (R' := fun d S'' => ∃ (j : Nat) (x : Int), left[j]? = some x ∧ d = tI (xs ++ [x]) ∧ S'' = [.pl l c (m + i + 1), .im (.int n), .ow ((left.eraseIdx j).map .int), .im (tI xs), .im (.int k)]) (ev_var rfl) (noL_tI _)
      (xw_tup1 (xw_pop (il := 2) (ds0 := left.map .int) rfl (xv_call (ip := 0) (l := l) (c := c) (m := m + i) (ok := okPick) (Fr := frPick) (cost := 1) (ds := [.int (left.length : Int)]) rfl (eas_cons (EvR.to (ev_cbR (eas_cons (ev_var rfl) eas_nil) rc_lenL) (by rw [List.length_map])) eas_nil) ⟨_, rfl, by omega⟩ (by omega)).w ?_) ?_) ?_) ?_
    · rintro d S' ⟨⟨a, j, e1, rfl, j0, j1⟩, rfl⟩
      cases e1
      exact ⟨j.toNat, left.map .int, by rw [Int.toNat_of_nonneg j0], rfl, by rw [List.length_map]; omega, by rw [List.length_map]; omega, noLs_ints _⟩
    · rintro d S' ⟨j, ds, S2, ⟨_, rfl⟩, e2, e3, e4⟩
      have e2 : some (Sl.ow (left.map .int)) = some (Sl.ow ds) := e2
      cases e2
      rw [List.getElem?_map] at e3
      cases h : left[j]? with
      | none => rw [h] at e3; cases e3
      | some x => rw [h] at e3; cases e3; rfl
    · rintro e S' ⟨e', ⟨j, ds, S2, ⟨_, rfl⟩, e2, e3, e4⟩, rfl⟩
      have e2 : some (Sl.ow (left.map .int)) = some (Sl.ow ds) := e2
      cases e2
      rw [List.getElem?_map] at e3
      cases h : left[j]? with
      | none => rw [h] at e3; cases e3
      | some x =>
        rw [h] at e3
        cases e3
        refine ⟨.tuple (xs.map .int ++ [.int x]), rv_addT (by rw [List.length_map]; show xs.length + 1 ≤ _; omega), ?_, j, x, h, ?_, ?_⟩
        · show noLs (xs.map .int ++ [.int x]) = true
          rw [show xs.map PyData.int ++ [.int x] = (xs ++ [x]).map .int by rw [List.map_append]; rfl]
          exact noLs_ints _
        · rw [tI, List.map_append]; rfl
        · rw [e4, erase_map]
          rfl
    · rintro d S' ⟨j, x, hj, rfl, rfl⟩
      refine ⟨Nat.le_of_ble_eq_true rfl, left.eraseIdx j, xs ++ [x], _, rfl, ?_, by rw [List.length_append, hx]; rfl, ?_⟩
      · obtain ⟨hjl, _⟩ := List.getElem?_eq_some_iff.mp hj
        rw [List.length_eraseIdx_of_lt hjl]
        omega
      · obtain ⟨hjl, hje⟩ := List.getElem?_eq_some_iff.mp hj
        refine List.Perm.trans ?_ hp
        rw [List.append_assoc]
        refine List.Perm.append_left _ ?_
        exact BR.erase_perm left j x hj
  · rintro S' ⟨left, xs, e4, rfl, hl, hx, hp⟩
    rw [rgI_length] at hl hx
    have : left = [] := List.length_eq_zero_iff.mp (by omega)
    subst this
    rw [List.append_nil] at hp
    refine run_retP (i := 0) (d := tI xs) (ev_var rfl) rfl fun v H' a2 ex r hc h0 h1 => ⟨tI xs, a2, ⟨n, xs, rfl, rfl, hp⟩, noL_tI _, r, ex, hc, h0, by rw [rgI_length] at h1; omega⟩

end
end K69

set_option Elab.async false
set_option linter.all false
set_option maxRecDepth 100000
set_option maxHeartbeats 8000000
namespace K69
open PySem PySem.Spec PyProof.Rows L2 KW BR
local macro_rules | `(tactic| walk_at "ev") => `(tactic| repeat' (first
  | with_reducible exact ev_int | with_reducible exact ev_str | with_reducible exact ev_bool | with_reducible exact ev_none
  | ((with_reducible apply ev_var); exact rfl)
  | with_reducible exact rv_add | with_reducible exact rv_sub | with_reducible exact rv_lt | with_reducible exact rv_le | with_reducible exact rv_gt | with_reducible exact rv_ge
  | with_reducible exact rv_eqI | with_reducible exact rv_neI | with_reducible exact rv_eqB | with_reducible exact rv_neB | with_reducible exact rv_eqT | with_reducible exact rv_neT | with_reducible exact rv_eqLI | with_reducible exact rv_neLI
  | with_reducible exact rv_isB | with_reducible exact rv_notB | with_reducible exact rv_inLI | with_reducible exact rv_inTI | with_reducible exact rv_niLI | with_reducible exact rv_niTI
  | ((with_reducible apply rv_eqS) <;> decide +kernel) | ((with_reducible apply rv_neS) <;> decide +kernel)
  | with_reducible apply rv_mul | with_reducible apply rv_mod | with_reducible apply rv_fdiv | with_reducible apply rv_pow | with_reducible apply rv_ixTI | with_reducible apply rv_ixLI | with_reducible apply rv_ixT | with_reducible apply rv_ixL | with_reducible apply rv_addT
  | with_reducible exact ru_neg
  | with_reducible exact rc_abs | with_reducible exact rc_max | with_reducible exact rc_min | with_reducible exact rc_minT | with_reducible exact rc_intI | with_reducible exact rc_intB | with_reducible exact rc_lenTI | with_reducible exact rc_lenLI | with_reducible exact rc_lenT | with_reducible exact rc_lenL | with_reducible exact rc_tupL | with_reducible exact rc_tupT | with_reducible exact rc_sum | with_reducible exact rc_all
  | with_reducible apply ev_opR
  | with_reducible apply ev_isiR
  | with_reducible exact isi_int | with_reducible exact isi_int_bool | with_reducible exact isi_tup | with_reducible exact isi_str
  | with_reducible apply ev_cbR
  | with_reducible apply KW.ev_un
  | with_reducible apply ev_tupR
  | ((with_reducible show okT _ = true); exact rfl)
  | with_reducible apply ev_revD
  | with_reducible exact RevD.lst _ | with_reducible exact RevD.tup _
  | with_reducible apply ev_slD
  | with_reducible exact SlD.lst _ | with_reducible exact SlD.tup _
  | with_reducible apply ef_lstR
  | with_reducible apply KW.ef_call
  | with_reducible apply KW.ef_addX_L
  | with_reducible apply KW.ef_listRg1 | with_reducible apply KW.ev_tupRg1 | with_reducible apply KW.ev_tupRg2
  | with_reducible apply ep_some
  | with_reducible exact ep_none
  | with_reducible apply KW.eb_test
  | with_reducible apply KW.eb_B
  | with_reducible apply KW.eb_not
  | with_reducible apply KW.ev_not
  | with_reducible exact eas_nil
  | with_reducible apply eas_cons
  | with_reducible apply KW.eb_and
  | with_reducible apply KW.eb_or
  | with_reducible apply KW.ev_and
  | with_reducible apply KW.ev_or
  | with_reducible apply KW.ev_chain
  | with_reducible apply KW.ev_call | with_reducible apply KW.ev_callF
  | walk_at "fr"
  | with_reducible refine fun (_ : _ = true) => ?_
  | with_reducible refine fun (_ : _ = false) => ?_))
local macro_rules | `(tactic| walk_at "sd") => `(tactic| first
  | assumption | omega | exact rfl | exact noL_tI _ | exact noLs_ints _ | exact Nat.le_of_ble_eq_true rfl
  | (refine Or.inl ⟨?_, ?_⟩ <;> omega) | (refine Or.inr ⟨?_, ?_⟩ <;> omega) | (refine And.intro ?_ ?_ <;> omega) | exact ⟨by omega, by omega, by decide⟩
  | exact ⟨_, _, rfl, rfl⟩)
local macro_rules | `(tactic| walk_at "set") => `(tactic| (apply run_seq; apply run_setR; (focus walk_at "ev"); all_goals (try walk_at "sd"); try dsimp only [List.set]))
local macro_rules | `(tactic| walk_at "setF") => `(tactic| (apply run_seq; apply run_setF; (focus walk_at "ev"); all_goals (try walk_at "sd"); try dsimp only [List.set]))
local macro_rules | `(tactic| walk_at "if") => `(tactic| (apply run_seq; apply run_if; (focus walk_at "ev"); all_goals (try walk_at "sd")))
local macro_rules | `(tactic| walk_at "if1") => `(tactic| (apply run_if; (focus walk_at "ev"); all_goals (try walk_at "sd")))
local macro_rules | `(tactic| walk_at "ret") => `(tactic| (apply ret_R; apply EvR.to; (focus walk_at "ev"); all_goals (try walk_at "sd")))
local macro_rules | `(tactic| walk_at "app") => `(tactic| (apply run_app; exact rfl; (focus walk_at "ev"); all_goals (try walk_at "sd"); try dsimp only [List.set]))
local macro_rules | `(tactic| walk_at "fr") => `(tactic| first | exact ⟨_, _, rfl, by omega, rfl⟩ | exact ⟨_, rfl, rfl⟩ | exact ⟨_, _, rfl, rfl⟩ | exact ⟨_, _, _, rfl, rfl⟩)

section
variable {P : Program} {w : World} {K : PySem.W.Frag} {mg : Str → Option Value} {base : Heap}
def spLaw (K : PySem.W.Frag) : Sp := fun vs H Q _ => ∃ ns : List Int, RpAll K H vs [lI ns] ∧ ns.length ≤ 1000 ∧ ∀ H', Q (.bl true) H'
theorem ok_law {f : Addr} {fd : FuncData} (F : Fun K "law" "law" s_law f fd) (m : Bl mg)
    (d__law_pool : DefOk P w K mg base "_law_pool" ["script"] 2 (spPool K)) (d__law_pick : DefOk P w K mg base "_law_pick" ["pool", "amount"] 1 (spX K okPick frPick 1)) (d__law_drawn_order : DefOk P w K mg base "_law_drawn_order" ["pool", "n"] 2 (spX K okDo frDo 100))
    (d_shortest_for : DefOk P w K mg base "shortest_for" ["order"] 1 (spR K frShort)) (d_order_of : DefOk P w K mg base "order_of" ["n", "braid"] 1 (spR K frOrder)) (d_length_of : DefOk P w K mg base "length_of" ["n", "braid"] 5 (spR K frLen)) (d_is_positive : DefOk P w K mg base "is_positive" ["n", "braid"] 5 (spR K frPos))
    (d_plain : DefOk P w K mg base "plain" ["n", "braid"] 4 (spR K frPlain)) (d_same : DefOk P w K mg base "same" ["n", "one", "two"] 5 (spR K frSame)) (d_of_plain : DefOk P w K mg base "of_plain" ["n", "form"] 2 (spR K frOf)) (d_back : DefOk P w K mg base "back" ["braid"] 1 (spR K frBack))
    (d_begins : DefOk P w K mg base "begins" ["order"] 1 (spR K frBegins)) (d_ends : DefOk P w K mg base "ends" ["order"] 1 (spR K frEnds)) (d_half : DefOk P w K mg base "half" ["n"] 1 (spR K frHalf)) :
    FnOk P w K mg base CX0 6 f fd ["script"] (spLaw K) := by
  refine F.ok sc_law (fun vs H Q E h => ?_) (fun cdv A outer s H vs Q E hr h => ?_)
  · obtain ⟨ns, r, _⟩ := h
    rw [Paired.length r]
    rfl
  have hu5 : (A.deeper (envOfC "law" (defScope s_law) s.heap.objs.size f cdv)).units + 65 < cLine := by
    have := hr.un
    omega
  refine ⟨_, (pss_cons (ps_set (i := 1) sc_law.nd rfl (.inl rfl) (pe_callD d__law_pool (hr.mono (by decide)) (by rfl) (pa_cons (pv 0) pa_nil)))
        (pss_cons (ps_set (i := 2) sc_law.nd rfl (.inr rfl) (pe_op (op_addK K rfl) pe_int (pe_callD d__law_pick (hr.mono (by decide)) (by rfl) (pa_cons (pv 1) (pa_cons pe_int pa_nil)))))
        (pss_cons (ps_asg (KW.pe_tup (pa_cons (pe_callD d__law_drawn_order (hr.mono (by decide)) (by rfl) (pa_cons (pv 1) (pa_cons (pv 2) pa_nil))) (pa_cons (pe_callD d__law_drawn_order (hr.mono (by decide)) (by rfl) (pa_cons (pv 1) (pa_cons (pv 2) pa_nil))) pa_nil))) (tup_K K rfl rfl (pgs_cons (pg_name (i := 3) sc_law.nd rfl (Or.inr rfl)) (pgs_cons (pg_name (i := 4) sc_law.nd rfl (Or.inl rfl)) pgs_nil))))
        (pss_cons (ps_set (i := 5) sc_law.nd rfl (.inl rfl) (pe_lst pa_nil))
        (pss_cons (ps_for PassesOwn.never rfl (seq_K K rfl (KW.pe_tup (pa_cons (pv 3) (pa_cons (pv 4) pa_nil)))) (pg_name (i := 6) sc_law.nd rfl (Or.inr rfl)) (pss_cons (ps_set (i := 7) sc_law.nd rfl (.inl rfl) (pe_callD d_shortest_for (hr.mono (by decide)) (by rfl) (pa_cons (pv 6) pa_nil)))
        (pss_cons (ps_set (i := 8) sc_law.nd rfl (.inl rfl) pe_int)
        (pss_cons (ps_for PassesOwn.never rfl (pi_range1 (by rfl) m.range (pa_cons (pv 2) pa_nil)) (pg_name (i := 9) sc_law.nd rfl (Or.inr rfl)) (pss_one (ps_set (i := 8) sc_law.nd rfl (.inl rfl) (pe_op (op_addK K rfl) (pv 8) (pe_callB (len_K K rfl) (by rfl) m.len PySem.boot_len (pa_cons (pe_lc (own := [("j", 13)]) rfl sc_law.nd (pi_range1 (by rfl) m.range (pa_cons (pv 9) pa_nil)) (blkOk_by (N := ["script", "pool", "n", "one", "two", "rows", "order", "word", "falls", "k", "due", "still", "turned", "j"]) (sc := defScope s_law) (by decide +kernel)) (fun _ _ _ _ _ => (pg_name (i := 13) sc_law.nd rfl (Or.inl rfl))) (fun _ _ _ _ _ => (pts_one (pt_cmpR op_gt (pe_ix (ix_K K rfl) (pv 6) (pv 13) (fun _ _ => rfl)) (pe_ix (ix_K K rfl) (pv 6) (pv 9) (fun _ _ => rfl)) (nomark _)))) (fun _ _ _ _ _ => (pv 13))) pa_nil))))))
        (pss_cons (ps_if (PW.pt (pw_or (pt_cmpR (op_neK K rfl hr.units) (pe_callB (len_K K rfl) (by rfl) m.len PySem.boot_len (pa_cons (pv 7) pa_nil)) (pv 8) (nomark _)) (pw_or (pt_cmpR (op_neK K rfl hr.units) (pe_callD d_order_of (hr.mono (by decide)) (by rfl) (pa_cons (pv 2) (pa_cons (pv 7) pa_nil))) (pv 6) (nomark _)) (pw_or (pt_cmpR (op_neK K rfl hr.units) (pe_callD d_length_of (hr.mono (by decide)) (by rfl) (pa_cons (pv 2) (pa_cons (pv 7) pa_nil))) (pv 8) (nomark _)) (pw_or1 (pt_cmpR op_notBl (pe_callD d_is_positive (hr.mono (by decide)) (by rfl) (pa_cons (pv 2) (pa_cons (pv 7) pa_nil))) pe_bl (nomark _))))))) (pss_one (ps_ret pe_bl)) pss_nil)
        (pss_cons (ps_set (i := 10) sc_law.nd rfl (.inl rfl) (KW.pe_tup (pa_cons pe_int (pa_cons (KW.pe_tup (pa_cons (pv 6) pa_nil)) pa_nil))))
        (pss_cons (ps_if (pt_cmpR (op_eqK K rfl hr.units) (pv 8) pe_int (nomark _)) (pss_one (ps_set (i := 10) sc_law.nd rfl (.inl rfl) (KW.pe_tup (pa_cons pe_int (pa_cons (KW.pe_tup pa_nil) pa_nil))))) pss_nil)
        (pss_cons (ps_if (pt_cmpR (op_eqK K rfl hr.units) (pe_op op_mul pe_int (pv 8)) (pe_op op_mul (pv 2) (pe_op op_sub (pv 2) pe_int)) (nomark _)) (pss_one (ps_set (i := 10) sc_law.nd rfl (.inl rfl) (KW.pe_tup (pa_cons pe_int (pa_cons (KW.pe_tup pa_nil) pa_nil))))) pss_nil)
        (pss_cons (ps_if (PW.pt (pw_or (pt_cmpR (op_neK K rfl hr.units) (pe_callD d_plain (hr.mono (by decide)) (by rfl) (pa_cons (pv 2) (pa_cons (pv 7) pa_nil))) (pv 10) (nomark _)) (pw_or (pt_cmpR op_notBl (pe_callD d_same (hr.mono (by decide)) (by rfl) (pa_cons (pv 2) (pa_cons (pe_callD d_of_plain (hr.mono (by decide)) (by rfl) (pa_cons (pv 2) (pa_cons (pv 10) pa_nil))) (pa_cons (pv 7) pa_nil)))) pe_bl (nomark _)) (pw_or1 (pt_cmpR (op_neK K rfl hr.units) (pe_callD d_is_positive (hr.mono (by decide)) (by rfl) (pa_cons (pv 2) (pa_cons (pe_callD d_back (hr.mono (by decide)) (by rfl) (pa_cons (pv 7) pa_nil)) pa_nil))) (pe_cmpR (op_eqK K rfl hr.units) (pv 8) pe_int (nomark _)) (nomark _)))))) (pss_one (ps_ret pe_bl)) pss_nil)
        (pss_cons (ps_for PassesOwn.never rfl (pi_range2 (by rfl) m.range (pa_cons pe_int (pa_cons (pv 2) pa_nil))) (pg_name (i := 9) sc_law.nd rfl (Or.inr rfl)) (pss_one (ps_if (PW.pt (pw_or (pt_cmpR (op_neK K rfl hr.units) (pe_callD d_is_positive (hr.mono (by decide)) (by rfl) (pa_cons (pv 2) (pa_cons (pe_op (op_addK K rfl) (KW.pe_tup (pa_cons (pe_un un_neg (pv 9)) pa_nil)) (pv 7)) pa_nil))) (pe_cmpR (op_inK K rfl hu5) (pv 9) (pe_callD d_begins (hr.mono (by decide)) (by rfl) (pa_cons (pv 6) pa_nil)) (by rfl)) (nomark _)) (pw_or1 (pt_cmpR (op_neK K rfl hr.units) (pe_callD d_is_positive (hr.mono (by decide)) (by rfl) (pa_cons (pv 2) (pa_cons (pe_op (op_addK K rfl) (pv 7) (KW.pe_tup (pa_cons (pe_un un_neg (pv 9)) pa_nil))) pa_nil))) (pe_cmpR (op_inK K rfl hu5) (pv 9) (pe_callD d_ends (hr.mono (by decide)) (by rfl) (pa_cons (pv 6) pa_nil)) (by rfl)) (nomark _))))) (pss_one (ps_ret pe_bl)) pss_nil)))
        (pss_cons (ps_if (PW.pt (pw_or (PW.pt (pw_and (pt_cmpR (op_eqK K rfl hr.units) (pe_callD d_begins (hr.mono (by decide)) (by rfl) (pa_cons (pv 6) pa_nil)) (KW.pe_tupRg rfl (by rfl) m.tuple (prg_2 (by rfl) m.range pe_int (pv 2))) (nomark _)) (pw_and1 (pt_cmpR (op_neK K rfl hr.units) (pe_op op_mul pe_int (pv 8)) (pe_op op_mul (pv 2) (pe_op op_sub (pv 2) pe_int)) (nomark _))))) (pw_or1 (PW.pt (pw_and (pt_cmpR (op_eqK K rfl hr.units) (pe_callD d_ends (hr.mono (by decide)) (by rfl) (pa_cons (pv 6) pa_nil)) (KW.pe_tup pa_nil) (nomark _)) (pw_and1 (pt_cmpR (op_neK K rfl hr.units) (pv 8) pe_int (nomark _)))))))) (pss_one (ps_ret pe_bl)) pss_nil)
        (pss_one (ps_expr (pe_bm PySem.F.plainAttrs_list PySem.F.slot_list_append PySem.F.type_list_append mt_append (pv 5) (pa_cons (pv 10) pa_nil)))))))))))))))
        (pss_cons (ps_if (PW.pt (pw_and (pt_cmpR (op_eqK K rfl hr.units) (pe_callB (len_K K rfl) (by rfl) m.len PySem.boot_len (pa_cons (pe_ix (ix_K K rfl) (pe_ix (ix_K K rfl) (pv 5) pe_int (fun _ _ => rfl)) pe_int (fun _ _ => rfl)) pa_nil)) pe_int (nomark _)) (pw_and1 (pt_cmpR (op_eqK K rfl hr.units) (pe_callB (len_K K rfl) (by rfl) m.len PySem.boot_len (pa_cons (pe_ix (ix_K K rfl) (pe_ix (ix_K K rfl) (pv 5) pe_int (fun _ _ => rfl)) pe_int (fun _ _ => rfl)) pa_nil)) pe_int (nomark _))))) (pss_cons (ps_set (i := 11) sc_law.nd rfl (.inl rfl) (pe_cmpR (op_eqK K rfl hr.units) (pe_lc (own := [("k", 9)]) rfl sc_law.nd (seq_K K rfl (pe_callD d_begins (hr.mono (by decide)) (by rfl) (pa_cons (pv 4) pa_nil))) (blkOk_by (N := ["script", "pool", "n", "one", "two", "rows", "order", "word", "falls", "k", "due", "still", "turned", "j"]) (sc := defScope s_law) (by decide +kernel)) (fun _ _ _ _ _ => (pg_name (i := 9) sc_law.nd rfl (Or.inl rfl))) (fun _ _ _ _ _ => (pts_one (pt_cmpR (op_niK K rfl hu5) (pv 9) (pe_callD d_ends (hr.mono (by decide)) (by rfl) (pa_cons (pv 3) pa_nil)) (by rfl)))) (fun _ _ _ _ _ => (pv 9))) (pe_lst pa_nil) (nomark _)))
        (pss_one (ps_if (pt_cmpR (op_neK K rfl hr.units) (pe_cmpR (op_eqK K rfl hr.units) (pe_callD d_plain (hr.mono (by decide)) (by rfl) (pa_cons (pv 2) (pa_cons (pe_op (op_addK K rfl) (pe_callD d_shortest_for (hr.mono (by decide)) (by rfl) (pa_cons (pv 3) pa_nil)) (pe_callD d_shortest_for (hr.mono (by decide)) (by rfl) (pa_cons (pv 4) pa_nil))) pa_nil))) (KW.pe_tup (pa_cons pe_int (pa_cons (KW.pe_tup (pa_cons (pv 3) (pa_cons (pv 4) pa_nil))) pa_nil))) (nomark _)) (pv 11) (nomark _)) (pss_one (ps_ret pe_bl)) pss_nil))) pss_nil)
        (pss_cons (ps_set (i := 12) sc_law.nd rfl (.inl rfl) (pe_callTy (tupOf_K K rfl) (by rfl) m.tuple (by decide +kernel) (pa_cons (pe_lc (own := [("k", 9)]) rfl sc_law.nd (seq_K K rfl (pe_callD d_shortest_for (hr.mono (by decide)) (by rfl) (pa_cons (pv 3) pa_nil))) (blkOk_by (N := ["script", "pool", "n", "one", "two", "rows", "order", "word", "falls", "k", "due", "still", "turned", "j"]) (sc := defScope s_law) (by decide +kernel)) (fun _ _ _ _ _ => (pg_name (i := 9) sc_law.nd rfl (Or.inl rfl))) (fun _ _ _ _ _ => pts_nil) (fun _ _ _ _ _ => (pe_op op_sub (pv 2) (pv 9)))) pa_nil)))
        (pss_one (ps_ret (pe_cmpR op_isBl (pe_callD d_same (hr.mono (by decide)) (by rfl) (pa_cons (pv 2) (pa_cons (pe_op (op_addK K rfl) (pe_callD d_half (hr.mono (by decide)) (by rfl) (pa_cons (pv 2) pa_nil)) (pe_callD d_shortest_for (hr.mono (by decide)) (by rfl) (pa_cons (pv 3) pa_nil))) (pa_cons (pe_op (op_addK K rfl) (pv 12) (pe_callD d_half (hr.mono (by decide)) (by rfl) (pa_cons (pv 2) pa_nil))) pa_nil)))) pe_bl (nomark _))))))))))), ?_⟩
  obtain ⟨ns, r, hl, q⟩ := h
  try dsimp only [cxOf, Cx.nox, Cx.wish]
  suffices hrun : Run K H _ [.im (lI ns), .no, .no, .no, .no, .no, .no, .no, .no, .no, .no, .no, .no, .no] ⟨fun _ => False, fun v _ => v = .bl true, fun _ => False, fun _ => False⟩ from
    hrun H (Evl.Ex.refl H) _ _ H (start_sb (N := ["script", "pool", "n", "one", "two", "rows", "order", "word", "falls", "k", "due", "still", "turned", "j"]) r) (fun _ _ _ _ z => z.elim) (fun v H' z => z ▸ q H') (fun _ _ _ _ z => z.elim) (fun _ _ _ _ z => z.elim)
  refine run_seq (run_setPool (by walk_at "ev") hl (Nat.le_of_ble_eq_true rfl) ?_)
  intro pl pc
  dsimp only [List.set]
  refine run_seq (run_setX (xv_add (a := 2) (xv_call (ok := okPick) (Fr := frPick) (cost := 1) (ds := [.int 4]) (l := pl) (c := pc) (m := 0) rfl (by walk_at "ev") ⟨4, rfl, by decide⟩ (by omega)) (fun d ⟨n, i, _, h, _⟩ => ⟨i, h⟩)) (Nat.le_of_ble_eq_true rfl) ?_)
  rintro d ⟨i, ⟨n', i', h1, h2, h3, h4⟩, rfl⟩
  cases h1
  cases h2
  obtain ⟨n, hpi⟩ : ∃ n : Nat, (n : Int) = 2 + i := ⟨(2 + i).toNat, by omega⟩
  rw [← hpi]
  have hn : 2 ≤ n ∧ n ≤ 5 := by omega
  clear hpi h3 h4
  dsimp only [List.set]
  change Run K H _ [.im (lI ns), .pl pl pc 1, .im (.int n), .no, .no, .no, .no, .no, .no, .no, .no, .no, .no, .no] _
  refine run_seq (run_tup2X (xv_call (ok := okDo) (Fr := frDo) (cost := 100) (ds := [.int n]) (l := pl) (c := pc) (m := 1) rfl (by walk_at "ev") ⟨n, rfl, by omega, by omega⟩ (by omega)) (xv_call (ok := okDo) (Fr := frDo) (cost := 100) (ds := [.int n]) (l := pl) (c := pc) (m := 101) rfl (by walk_at "ev") ⟨n, rfl, by omega, by omega⟩ (by omega)) (Nat.le_of_ble_eq_true rfl) (Nat.le_of_ble_eq_true rfl) ?_)
  rintro d e ⟨n1, one, h1, rfl, p1⟩ ⟨n2, two, h2, rfl, p2⟩
  cases h1
  cases h2
  rw [Int.toNat_natCast] at p1 p2
  have i1 := isP_perm p1
  have i2 := isP_perm p2
  clear p1 p2
  dsimp only [List.set]
  refine run_seq (run_setF (ds := []) (ef_lstR eas_nil rfl) rfl (Nat.le_of_ble_eq_true rfl) ?_)
  dsimp only [List.set]
  change Run K H _ [.im (lI ns), .pl pl pc 201, .im (.int n), .im (tI one), .im (tI two), .ow [], .no, .no, .no, .no, .no, .no, .no, .no] _
  have okpos : ∀ {v : List Int}, (∀ x ∈ v, 1 ≤ x ∧ x < (n : Int)) → okW n v := fun {v} h => okW_of fun x hx => by have := h x hx; omega
  have hh10 := half_le (n := (n : Int)) (by omega)
  have hhok : okW n (halfF n) := okpos fun x hx => mem_half hx
  refine run_seq (run_for [one, two] tI (fun x => [(6, tI x)]) (its_seqT (ds := [tI one, tI two]) (by walk_at "ev") (noLs_tIs [one, two])) (fun _ _ => tg_name)
    (fun i S' => ∃ e6 e7 e8 e9 e10, S' = [.im (lI ns), .pl pl pc 201, .im (.int n), .im (tI one), .im (tI two), .ow ((([one, two].take i).map (dueF n)).map fD), e6, e7, e8, e9, e10, .no, .no, .no]) ⟨_, _, _, _, _, rfl⟩ ?_ ?_ ?_)
  · rintro i k S' _ ⟨_, _, _, _, _, rfl⟩ p hp
    rw [List.mem_singleton.mp hp]
    exact Nat.le_of_ble_eq_true rfl
  · rintro i xs S' hx ⟨e6, e7, e8, e9, e10, rfl⟩
    have hP : IsP n xs := by
      have := List.mem_of_getElem? hx
      simp only [List.mem_cons, List.not_mem_nil, or_false] at this
      rcases this with rfl | rfl <;> assumption
    have hdone : (([one, two].take (i + 1)).map (dueF n)).map fD = (([one, two].take i).map (dueF n)).map fD ++ [fD (dueF n xs)] := by
      rw [List.take_add_one, hx, List.map_append, List.map_append]
      rfl
    have hrl : ((([one, two].take i).map (dueF n)).map fD).length < 100000 := by
      rw [List.length_map, List.length_map, List.length_take]
      show min i 2 < _
      omega
    generalize (([one, two].take i).map (dueF n)).map fD = rows0 at hdone hrl
    have fo := facts hn hP
    have hlx := hP.1
    have hdl : (dueF n xs).2.length ≤ 1 ∧ (∀ x ∈ (dueF n xs).2, x = xs) ∧ ((dueF n xs).1 = 0 ∨ (dueF n xs).1 = 1) := by
      unfold dueF
      split
      · exact ⟨Nat.zero_le _, (fun x h => by cases h), .inr rfl⟩
      · split
        · exact ⟨Nat.zero_le _, (fun x h => by cases h), .inl rfl⟩
        · exact ⟨Nat.le_refl _, (fun x h => List.mem_singleton.mp h), .inl rfl⟩
    generalize hwd : sfW xs = wd at fo
    generalize hfa : lawFalls n xs = fa at fo
    have hfab : 0 ≤ fa ∧ fa ≤ 10 := by have := fo.len; have := fo.le; omega
    have okw := okpos fo.pos
    change Run K H _ [.im (lI ns), .pl pl pc 201, .im (.int n), .im (tI one), .im (tI two), .ow rows0, .im (tI xs), e7, e8, e9, e10, .no, .no, .no] _
    refine run_seq (run_setR (d := tI wd) (ev_call (by walk_at "ev") ⟨xs, wd, rfl, ⟨by omega, fo.sf⟩, rfl⟩) (noL_tI _) (Nat.le_of_ble_eq_true rfl) ?_)
    dsimp only [List.set]
    refine run_seq (run_setR (d := .int 0) ev_int rfl (Nat.le_of_ble_eq_true rfl) ?_)
    dsimp only [List.set]
    refine run_seq (run_for_fold (rgI 0 n) .int (fun x => [(9, .int x)]) (its_rng1 (n := n) (by walk_at "ev") (by omega)) (fun _ _ => tg_name)
      (fun (st : Int) S' => ∃ e9, S' = [.im (lI ns), .pl pl pc 201, .im (.int n), .im (tI one), .im (tI two), .ow rows0, .im (tI xs), .im (tI wd), .im (.int st), e9, e10, .no, .no, .no])
      (fun (s : Int) k => s + (((rgI 0 k.toNat).filter fun j => decide (xs.getD k.toNat 0 < xs.getD j.toNat 0)).length : Int)) (0 : Int) ⟨_, rfl⟩ ?_ ?_ ?_)
    · rintro st k S' _ ⟨_, rfl⟩ p hp
      rw [List.mem_singleton.mp hp]
      exact Nat.le_of_ble_eq_true rfl
    · rintro i2 st k S' hk _ ⟨e9, rfl⟩
      have hkr := mem_rgI.mp (List.mem_of_getElem? hk)
      change Run K H _ [.im (lI ns), .pl pl pc 201, .im (.int n), .im (tI one), .im (tI two), .ow rows0, .im (tI xs), .im (tI wd), .im (.int st), .im (.int k), e10, .no, .no, .no] _
      refine run_setR (d := .int (st + (((rgI 0 k.toNat).filter fun j => decide (xs.getD k.toNat 0 < xs.getD j.toNat 0)).length : Int))) (ev_opR (ev_var rfl) (ev_cbR (ds := [.list (((rgI 0 k.toNat).filter fun j => decide (xs.getD k.toNat 0 < xs.getD j.toNat 0)).map .int)]) (eas_cons (EvF.r (ef_lc (rgI 0 k.toNat) .int (fun x => [(13, .int x)]) (fun j => decide (xs.getD k.toNat 0 < xs.getD j.toNat 0)) .int (it_rng1 (n := k) (by walk_at "ev") (by omega)) (fun _ _ => tg_name) (fun _ _ p hp => by
          rw [List.mem_singleton.mp hp]; simp) (fun a ha => ?_) (fun a ha _ => em_R rfl (by walk_at "ev")) (by rw [rgI_length]; omega))) eas_nil) (by have h := rc_lenL (K := K) (ds := ((rgI 0 k.toNat).filter fun j => decide (xs.getD k.toNat 0 < xs.getD j.toNat 0)).map .int); rw [List.length_map] at h; exact h)) rv_add) rfl (Nat.le_of_ble_eq_true rfl) ?_
      · have := mem_rgI.mp ha
        walk_at "ev" <;> omega
      · exact ⟨_, rfl⟩
    rintro S' ⟨e9, rfl⟩
    have hfa' : (rgI 0 n).foldl (fun (s : Int) k => s + (((rgI 0 k.toNat).filter fun j => decide (xs.getD k.toNat 0 < xs.getD j.toNat 0)).length : Int)) 0 = fa := hfa
    rw [hfa']
    have hpos : ∀ {v : List Int} {r : Int × List (List Int)}, v.length ≤ 100 → okW n v → plR n v = some r → frPos [.int n, tI v] (.bool (decide (0 ≤ r.1))) := fun {v r} h1 h2 h3 => ⟨n, v, r, rfl, ⟨by omega, by omega, by omega, h2, h3⟩, rfl⟩
    have hplain : frPlain [.int n, tI wd] (fD (dueF n xs)) := ⟨n, wd, _, rfl, ⟨by omega, by omega, by have := fo.le; omega, okw, fo.pl⟩, rfl⟩
    have hdue1 : 0 ≤ (dueF n xs).1 := by rcases hdl.2.2 with h | h <;> omega
    refine run_seq (run_if (b := false) (KW.eb_or (b := false) (c := false) (EvB.to (b := !decide ((wd.length : Int) = fa)) (by walk_at "ev") (by rw [decide_eq_true fo.len]; rfl)) fun _ =>
      KW.eb_or (b := false) (c := false) (EvB.to (b := !decide (orderF n wd = xs)) (KW.eb_test (ev_opR (ev_call (by walk_at "ev") ⟨n, wd, rfl, ⟨by omega, by omega, okw⟩, rfl⟩) (ev_var rfl) rv_neT)) (by rw [decide_eq_true fo.ord]; rfl)) fun _ =>
      KW.eb_or (b := false) (c := false) (EvB.to (b := !decide (lenF n (dueF n xs) = fa)) (KW.eb_test (ev_opR (ev_call (by walk_at "ev") ⟨n, wd, dueF n xs, rfl, ⟨by omega, by omega, by have := fo.le; omega, okw, fo.pl, by omega, by rcases hdl.2.2 with h | h <;> omega, by have := hdl.1; omega, fun x hx => by rw [hdl.2.1 x hx]; omega⟩, rfl⟩) (ev_var rfl) rv_neI)) (by rw [decide_eq_true fo.ln]; rfl)) fun _ =>
      EvB.to (b := !decide (decide (0 ≤ (dueF n xs).1) = true)) (KW.eb_test (ev_opR (ev_call (by walk_at "ev") (hpos (by have := fo.le; omega) okw fo.pl)) ev_bool rv_notB)) (by simpa using hdue1)) (fun z => by cases z) fun _ => run_nx ?_)
    refine run_seq (run_setR (d := fD (0, [xs])) (ev_tupR (ds := [.int 0, .tuple [tI xs]]) (eas_cons ev_int (eas_cons (ev_tupR (ds := [tI xs]) (eas_cons (ev_var rfl) eas_nil) rfl) eas_nil)) rfl) (noL_fD _) (Nat.le_of_ble_eq_true rfl) ?_)
    dsimp only [List.set]
    refine run_mid (T := [.im (lI ns), .pl pl pc 201, .im (.int n), .im (tI one), .im (tI two), .ow rows0, .im (tI xs), .im (tI wd), .im (.int fa), e9, .im (fD (if fa = 0 then (0, []) else (0, [xs]))), .no, .no, .no]) ?_ ?_
    · refine run_if (b := decide (fa = 0)) (by walk_at "ev") (fun h => ?_) fun h => run_nx ?_
      · have h := of_decide_eq_true h
        refine run_setR (d := fD (0, [])) (ev_tupR (ds := [.int 0, .tuple []]) (eas_cons ev_int (eas_cons (ev_tupR (ds := []) eas_nil rfl) eas_nil)) rfl) (noL_fD _) (Nat.le_of_ble_eq_true rfl) ?_
        dsimp only [List.set]
        rw [if_pos h]
      · have h := of_decide_eq_false h
        rw [if_neg h]
    refine run_mid (T := [.im (lI ns), .pl pl pc 201, .im (.int n), .im (tI one), .im (tI two), .ow rows0, .im (tI xs), .im (tI wd), .im (.int fa), e9, .im (fD (dueF n xs)), .no, .no, .no]) ?_ ?_
    · have hd : dueF n xs = if 2 * fa = (n : Int) * ((n : Int) - 1) then (1, []) else if fa = 0 then (0, []) else (0, [xs]) := by unfold dueF; rw [hfa]
      refine run_if (b := decide (2 * fa = (n : Int) * ((n : Int) - 1))) (KW.eb_test (ev_opR (ev_opR ev_int (ev_var rfl) (rv_mul (.inl ⟨by omega, by omega⟩))) (ev_opR (ev_var rfl) (ev_opR (ev_var rfl) ev_int rv_sub) (rv_mul (.inl ⟨by omega, by omega⟩))) rv_eqI)) (fun h => ?_) fun h => run_nx ?_
      · have h := of_decide_eq_true h
        refine run_setR (d := fD (1, [])) (ev_tupR (ds := [.int 1, .tuple []]) (eas_cons ev_int (eas_cons (ev_tupR (ds := []) eas_nil rfl) eas_nil)) rfl) (noL_fD _) (Nat.le_of_ble_eq_true rfl) ?_
        dsimp only [List.set]
        rw [hd, if_pos h]
      · have h := of_decide_eq_false h
        rw [hd, if_neg h]
    have hof : frOf [.int n, fD (dueF n xs)] (tI (ofW n (dueF n xs))) := ⟨n, dueF n xs, rfl, ⟨by omega, by omega, hdl.2.2, by have := hdl.1; omega, fun x hx => by rw [hdl.2.1 x hx, fo.sf]; exact ⟨by omega, rfl⟩⟩, rfl⟩
    have hofw : okW n (ofW n (dueF n xs)) ∧ (ofW n (dueF n xs)).length ≤ 20 := by
      have hd : dueF n xs = (1, []) ∨ dueF n xs = (0, []) ∨ dueF n xs = (0, [xs]) := by
        unfold dueF
        split
        · exact .inl rfl
        · split
          · exact .inr (.inl rfl)
          · exact .inr (.inr rfl)
      rcases hd with h | h | h <;> rw [h] <;> unfold ofW
      · rw [if_neg (by decide)]
        simp only [List.flatMap_nil, List.append_nil]
        exact ⟨hhok, by omega⟩
      · rw [if_pos rfl]
        exact ⟨fun x hx => by simp at hx, by simp⟩
      · rw [if_pos rfl]
        simp only [List.flatMap_cons, List.flatMap_nil, List.append_nil, List.nil_append, hwd]
        exact ⟨okw, by have := fo.le; omega⟩
    obtain ⟨rb, hb1, hb2⟩ := fo.bk
    have okb : okW n (bkF wd) := okW_of fun x hx => by
      obtain ⟨k, hk, rfl⟩ := List.mem_map.mp hx
      have := fo.pos k (List.mem_reverse.mp hk)
      omega
    have lenb : (bkF wd).length ≤ 10 := by
      unfold bkF
      rw [List.length_map, List.length_reverse]
      exact fo.le
    refine run_seq (run_if (b := false) (KW.eb_or (b := false) (c := false) (EvB.to (b := !decide (dueF n xs = dueF n xs)) (KW.eb_test (ev_opR (ev_call (by walk_at "ev") hplain) (ev_var rfl) rv_neF)) (by simp)) fun _ =>
      KW.eb_or (b := false) (c := false) (EvB.to (b := !decide (decide (dueF n xs = dueF n xs) = true)) (KW.eb_test (ev_opR (ev_call (ds := [.int n, tI (ofW n (dueF n xs)), tI wd]) (eas_cons (ev_var rfl) (eas_cons (ev_call (by walk_at "ev") hof) (eas_cons (ev_var rfl) eas_nil))) ⟨n, _, _, _, _, rfl, ⟨by omega, by omega, by have := hofw.2; omega, hofw.1, fo.of, by have := fo.le; omega, okw, fo.pl⟩, rfl⟩) ev_bool rv_notB)) (by simp)) fun _ =>
      EvB.to (b := !(decide (0 ≤ rb.1) == decide (fa = 0))) (KW.eb_test (ev_opR (ev_call (ds := [.int n, tI (bkF wd)]) (eas_cons (ev_var rfl) (eas_cons (ev_call (by walk_at "ev") ⟨wd, rfl, by have := fo.le; omega, rfl⟩) eas_nil)) (hpos (by omega) okb hb1)) (ev_opR (ev_var rfl) ev_int rv_eqI) rv_neB)) (by rw [hb2]; simp)) (fun z => by cases z) fun _ => run_nx ?_)
    refine run_seq (run_for (rgI 1 ((n : Int) - 1).toNat) .int (fun x => [(9, .int x)]) (its_rng2 (lo := 1) (n := n) (by walk_at "ev") (by omega)) (fun _ _ => tg_name)
      (fun _ S' => ∃ e9, S' = [.im (lI ns), .pl pl pc 201, .im (.int n), .im (tI one), .im (tI two), .ow rows0, .im (tI xs), .im (tI wd), .im (.int fa), e9, .im (fD (dueF n xs)), .no, .no, .no]) ⟨_, rfl⟩ ?_ ?_ ?_)
    · rintro i2 k S' _ ⟨_, rfl⟩ p hp
      rw [List.mem_singleton.mp hp]
      exact Nat.le_of_ble_eq_true rfl
    · rintro i2 k S' hk ⟨e9, rfl⟩
      have hkr := mem_rgI.mp (List.mem_of_getElem? hk)
      obtain ⟨ra, ha1, ha2⟩ := fo.beg k (by omega) (by omega)
      obtain ⟨rc, hc1, hc2⟩ := fo.en k (by omega) (by omega)
      have ok1 : okW n (-k :: wd) := okW_of fun x hx => by
        rcases List.mem_cons.mp hx with rfl | hx
        · omega
        · have := fo.pos x hx; omega
      have ok2 : okW n (wd ++ [-k]) := okW_of fun x hx => by
        rcases List.mem_append.mp hx with hx | hx
        · have := fo.pos x hx; omega
        · rw [List.mem_singleton.mp hx]; omega
      change Run K H _ [.im (lI ns), .pl pl pc 201, .im (.int n), .im (tI one), .im (tI two), .ow rows0, .im (tI xs), .im (tI wd), .im (.int fa), .im (.int k), .im (fD (dueF n xs)), .no, .no, .no] _
      refine run_if (b := false) (KW.eb_or (b := false) (c := false) (EvB.to (b := !(decide (0 ≤ ra.1) == decide (k ∈ begF xs))) (KW.eb_test (ev_opR (ev_call (ds := [.int n, tI (-k :: wd)]) (eas_cons (ev_var rfl) (eas_cons (EvR.to (ev_opR (ev_tupR (ds := [.int (-k)]) (by walk_at "ev") rfl) (ev_var rfl) (rv_addT ?_)) rfl) eas_nil)) (hpos (by rw [List.length_cons]; have := fo.le; omega) ok1 ha1))
          (ev_opR (ev_var rfl) (ev_call (by walk_at "ev") ⟨xs, rfl, by omega, rfl⟩) rv_inTI) rv_neB)) (by rw [ha2]; simp)) fun _ =>
        EvB.to (b := !(decide (0 ≤ rc.1) == decide (k ∈ endF xs))) (KW.eb_test (ev_opR (ev_call (ds := [.int n, tI (wd ++ [-k])]) (eas_cons (ev_var rfl) (eas_cons (EvR.to (ev_opR (ev_var rfl) (ev_tupR (ds := [.int (-k)]) (by walk_at "ev") rfl) (rv_addT ?_)) ?_) eas_nil)) (hpos (by rw [List.length_append]; have := fo.le; show wd.length + 1 ≤ 100; omega) ok2 hc1))
          (ev_opR (ev_var rfl) (ev_call (by walk_at "ev") ⟨n, xs, rfl, ⟨hP, by omega⟩, rfl⟩) rv_inTI) rv_neB)) (by rw [hc2]; simp)) (fun z => by cases z) fun _ => run_nx ⟨_, rfl⟩
      · rw [List.length_map]; have := fo.le; show 1 + wd.length ≤ _; omega
      · rw [List.length_map]; have := fo.le; show wd.length + 1 ≤ _; omega
      · rw [tI, List.map_append]; rfl
    rintro S' ⟨e9, rfl⟩
    have cnd1 : (decide (begF xs = rgI 1 ((n : Int) - 1).toNat) && !decide (2 * fa = (n : Int) * ((n : Int) - 1))) = false := by
      by_cases c : begF xs = rgI 1 ((n : Int) - 1).toNat
      · have : rgI 1 ((n : Int) - 1).toNat = rgI 1 (n - 1) := by rw [show ((n : Int) - 1).toNat = n - 1 by omega]
        rw [decide_eq_true (fo.fullB (c.trans this))]
        simp
      · rw [decide_eq_false c]; rfl
    have cnd2 : (decide (endF xs = []) && !decide (fa = 0)) = false := by
      by_cases c : endF xs = []
      · rw [decide_eq_true (fo.noE c)]; simp
      · rw [decide_eq_false c]; rfl
    refine run_seq (run_if (b := false) (KW.eb_or (b := false) (c := false) (EvB.to (KW.eb_and (b := decide (begF xs = rgI 1 ((n : Int) - 1).toNat)) (c := !decide (2 * fa = (n : Int) * ((n : Int) - 1))) (KW.eb_test (ev_opR (ev_call (by walk_at "ev") ⟨xs, rfl, by omega, rfl⟩) (KW.ev_tupRg2 (i := 1) (j := n) ev_int (ev_var rfl) (by omega)) rv_eqT)) fun _ =>
        KW.eb_test (ev_opR (ev_opR ev_int (ev_var rfl) (rv_mul (.inl ⟨by omega, by omega⟩))) (ev_opR (ev_var rfl) (ev_opR (ev_var rfl) ev_int rv_sub) (rv_mul (.inl ⟨by omega, by omega⟩))) rv_neI)) cnd1) fun _ =>
      EvB.to (KW.eb_and (b := decide (endF xs = [])) (c := !decide (fa = 0)) (KW.eb_test (ev_opR (ev_call (by walk_at "ev") ⟨n, xs, rfl, ⟨hP, by omega⟩, rfl⟩) (ev_tupR (ds := []) eas_nil rfl) (rv_eqT (ys := [])))) fun _ => KW.eb_test (ev_opR (ev_var rfl) ev_int rv_neI)) cnd2) (fun z => by cases z) fun _ => run_nx ?_)
    refine run_app (d := fD (dueF n xs)) rfl (ev_var rfl) (noL_fD _) hrl ?_
    dsimp only [List.set]
    rw [hdone]
    exact ⟨_, _, _, _, _, rfl⟩
  rintro S' ⟨e6, e7, e8, e9, e10, rfl⟩
  have f1 := facts hn i1
  have f2 := facts hn i2
  generalize hw1 : sfW one = w1 at f1
  generalize hw2 : sfW two = w2 at f2
  have ok1 := okpos f1.pos
  have ok2 := okpos f2.pos
  have l1 := i1.1
  have l2 := i2.1
  have lw1 := f1.le
  have lw2 := f2.le
  have hprop : ∀ {xs : List Int}, IsP n xs → (dueF n xs).2.length = 1 → dueF n xs = (0, [xs]) ∧ 2 * lawFalls n xs ≠ (n : Int) * ((n : Int) - 1) ∧ lawFalls n xs ≠ 0 := fun {xs} _ h => by
    unfold dueF at h ⊢
    by_cases c1 : 2 * lawFalls n xs = (n : Int) * ((n : Int) - 1)
    · rw [if_pos c1] at h; cases h
    · rw [if_neg c1] at h ⊢
      by_cases c2 : lawFalls n xs = 0
      · rw [if_pos c2] at h; cases h
      · rw [if_neg c2]; exact ⟨rfl, c1, c2⟩
  change Run K H _ [.im (lI ns), .pl pl pc 201, .im (.int n), .im (tI one), .im (tI two), .ow [fD (dueF n one), fD (dueF n two)], e6, e7, e8, e9, e10, .no, .no, .no] _
  refine run_midE (T := fun e11 => [.im (lI ns), .pl pl pc 201, .im (.int n), .im (tI one), .im (tI two), .ow [fD (dueF n one), fD (dueF n two)], e6, e7, e8, e9, e10, e11, .no, .no]) ?_ fun e11 => ?_
  · refine run_if (b := decide ((((dueF n one).2.map tI).length : Int) = 1) && decide ((((dueF n two).2.map tI).length : Int) = 1)) (KW.eb_and (KW.eb_test (ev_opR (ev_cbR (ds := [.tuple ((dueF n one).2.map tI)]) (eas_cons (ev_opR (ev_opR (ev_var rfl) ev_int (rv_ixL (atI_nat (j := 0) rfl))) ev_int (rv_ixT (atI_nat (j := 1) rfl))) eas_nil) rc_lenT) ev_int rv_eqI)) fun _ =>
      KW.eb_test (ev_opR (ev_cbR (ds := [.tuple ((dueF n two).2.map tI)]) (eas_cons (ev_opR (ev_opR (ev_var rfl) ev_int (rv_ixL (atI_nat (j := 1) rfl))) ev_int (rv_ixT (atI_nat (j := 1) rfl))) eas_nil) rc_lenT) ev_int rv_eqI)) (fun h => ?_) fun h => run_nx ⟨_, rfl⟩
    simp only [Bool.and_eq_true, decide_eq_true_eq, List.length_map] at h
    obtain ⟨a1, a2, a3⟩ := hprop i1 (by omega)
    obtain ⟨b1, b2, b3⟩ := hprop i2 (by omega)
    obtain ⟨c1, c2, c3⟩ := f1.prop a2 a3
    obtain ⟨g1, g2, g3⟩ := f2.prop b2 b3
    have hstart : plFrom n (0, []) w1 = some (0, [one]) := by have := f1.pl; rw [a1] at this; exact this
    obtain ⟨r, hr⟩ := plX (n := (n : Int)) (by omega) w2 (0, [one]) ok2 (fun x hx => by rw [List.mem_singleton.mp hx, Int.toNat_natCast]; exact i1) (by show 1 + w2.length ≤ 30; omega)
    have hplr : plR n (w1 ++ w2) = some r := by
      unfold plR
      rw [plFrom_append, hstart]
      exact hr
    have hiff := pair_iff hn i1 i2 c2 c3 g2 f2.pos g1 hr
    have ok12 : okW n (w1 ++ w2) := okpos fun x hx => by
      rcases List.mem_append.mp hx with hx | hx
      · exact f1.pos x hx
      · exact f2.pos x hx
    have lbeg : (begF two).length ≤ 2000 := by
      rw [begF, List.length_map]
      refine Nat.le_trans (List.length_filter_le _ _) ?_
      rw [rgI_length]
      omega
    refine run_seq (run_setR (d := .bool (decide (((begF two).filter fun k => !decide (k ∈ endF one)) = []))) (ev_opR (EvF.r (ef_lc (begF two) .int (fun x => [(9, .int x)]) (fun k => !decide (k ∈ endF one)) .int (it_seqT (ds := (begF two).map .int) (ev_call (by walk_at "ev") ⟨two, rfl, by omega, rfl⟩)) (fun _ _ => tg_name) (fun _ _ p hp => by
        rw [List.mem_singleton.mp hp]; simp) (fun k hk => KW.eb_test (ev_opR (ev_var rfl) (ev_call (by walk_at "ev") ⟨n, one, rfl, ⟨i1, by omega⟩, rfl⟩) rv_niTI)) (fun a ha _ => em_R rfl (by walk_at "ev")) (by omega))) (EvF.r (ef_lstR (ds := []) eas_nil rfl)) (rv_eqLI (ys := []))) rfl (Nat.le_of_ble_eq_true rfl) ?_)
    dsimp only [List.set]
    have hst : decide (r = (0, [one, two])) = decide (((begF two).filter fun k => !decide (k ∈ endF one)) = []) := by
      refine decide_eq_decide.mpr (hiff.trans ?_)
      rw [List.filter_eq_nil_iff]
      simp
    refine run_if (b := false) (EvB.to (b := !(decide (r = (0, [one, two])) == decide (((begF two).filter fun k => !decide (k ∈ endF one)) = []))) (KW.eb_test (ev_opR (ev_opR (ev_call (ds := [.int n, tI (w1 ++ w2)]) (eas_cons (ev_var rfl) (eas_cons (EvR.to (ev_opR (ev_call (d := tI w1) (by walk_at "ev") ⟨one, w1, rfl, ⟨by omega, f1.sf⟩, rfl⟩) (ev_call (d := tI w2) (by walk_at "ev") ⟨two, w2, rfl, ⟨by omega, f2.sf⟩, rfl⟩) (rv_addT ?_)) ?_) eas_nil)) ⟨n, w1 ++ w2, r, rfl, ⟨by omega, by omega, by rw [List.length_append]; omega, ok12, hplr⟩, rfl⟩)
      (ev_tupR (ds := [.int 0, .tuple [tI one, tI two]]) (eas_cons ev_int (eas_cons (ev_tupR (ds := [tI one, tI two]) (eas_cons (ev_var rfl) (eas_cons (ev_var rfl) eas_nil)) rfl) eas_nil)) rfl) (rv_eqF (b := (0, [one, two])))) (ev_var rfl) rv_neB)) (by rw [hst]; simp)) (fun z => by cases z) fun _ => run_nx ⟨_, rfl⟩
    · rw [List.length_map, List.length_map]; omega
    · rw [tI, List.map_append]
  obtain ⟨rt, ht1, ht2⟩ := f1.tw
  refine run_seq (run_setR (d := tI (w1.map fun k => (n : Int) - k)) (EvR.to (ev_cbR (ds := [.list ((w1.filter fun _ => true).map fun k => .int ((n : Int) - k))]) (eas_cons (EvF.r (ef_lc w1 .int (fun x => [(9, .int x)]) (fun _ => true) (fun k => .int ((n : Int) - k)) (it_seqT (ds := w1.map .int) (ev_call (d := tI w1) (by walk_at "ev") ⟨one, w1, rfl, ⟨by omega, f1.sf⟩, rfl⟩)) (fun _ _ => tg_name) (fun _ _ p hp => by
      rw [List.mem_singleton.mp hp]; simp) (fun a ha => fun σ H E Q q => q H (Evl.Ex.refl H)) (fun a ha _ => em_R rfl (by walk_at "ev")) (by omega))) eas_nil) rc_tupL) (by rw [map_if, tI, List.map_map]; rfl)) (noL_tI _) (Nat.le_of_ble_eq_true rfl) ?_)
  dsimp only [List.set]
  have okt : okW n (w1.map fun k => (n : Int) - k) := okpos fun x hx => by
    obtain ⟨k, hk, rfl⟩ := List.mem_map.mp hx
    have := f1.pos k hk
    omega
  have okap : ∀ {u v : List Int}, okW n u → okW n v → okW n (u ++ v) := fun {u v} h1 h2 x hx => by
    rcases List.mem_append.mp hx with hx | hx
    · exact h1 x hx
    · exact h2 x hx
  have hhf : frHalf [.int n] (tI (halfF n)) := ⟨n, rfl, ⟨by omega, by omega⟩, rfl⟩
  refine run_retR (d := .bool true) (EvR.to (d := .bool (decide (decide (rt = rt) = true))) (ev_opR (ev_call (ds := [.int n, tI (halfF n ++ w1), tI ((w1.map fun k => (n : Int) - k) ++ halfF n)]) (eas_cons (ev_var rfl) (eas_cons (EvR.to (ev_opR (ev_call (by walk_at "ev") hhf) (ev_call (d := tI w1) (by walk_at "ev") ⟨one, w1, rfl, ⟨by omega, f1.sf⟩, rfl⟩) (rv_addT ?_)) ?_) (eas_cons (EvR.to (ev_opR (ev_var rfl) (ev_call (by walk_at "ev") hhf) (rv_addT ?_)) ?_) eas_nil)))
    ⟨n, _, _, rt, rt, rfl, ⟨by omega, by omega, by rw [List.length_append]; omega, okap hhok ok1, ht1, by rw [List.length_append, List.length_map]; omega, okap okt hhok, ht2⟩, rfl⟩) ev_bool rv_isB) (by simp)) fun v H' e r => r.bool
  · rw [List.length_map, List.length_map]; omega
  · rw [tI, List.map_append]
  · rw [List.length_map, List.length_map, List.length_map]; omega
  · rw [tI, List.map_append]
end
end K69

/-! what the top has written; the head -/
namespace K69
open PySem PySem.Spec PyProof.Rows L2 KW
theorem arg_list {K : PySem.W.Frag} {H : Hp} {a : Addr} {ns : List Int} (h : SqL K H a (ns.map V.int)) : RpAll K H [.ref a] [lI ns] := .cons (.inl (.lst h (DpAll.of_ints _))) .nil
set_option maxHeartbeats 0 in
theorem all_mk {l : PySem.W.OpenLaw} {w : World} {K : PySem.W.Frag} {h : Heap} {mg : Str → Option Value} {fa : Addr} (X : K.In h) (G : h.Ns mainGlobals mg) (hfa : mg "law" = some (.ref fa))
    {f_back : Addr} {od_back an_back : Option Addr} {sl_back : Array (Option Value)} {oc_back kV_back dc_back pm_back cd_back ct_back : Value}
    {f_order_of : Addr} {od_order_of an_order_of : Option Addr} {sl_order_of : Array (Option Value)} {oc_order_of kV_order_of dc_order_of pm_order_of cd_order_of ct_order_of : Value}
    {f_half : Addr} {od_half an_half : Option Addr} {sl_half : Array (Option Value)} {oc_half kV_half dc_half pm_half cd_half ct_half : Value}
    {f_begins : Addr} {od_begins an_begins : Option Addr} {sl_begins : Array (Option Value)} {oc_begins kV_begins dc_begins pm_begins cd_begins ct_begins : Value}
    {f_ends : Addr} {od_ends an_ends : Option Addr} {sl_ends : Array (Option Value)} {oc_ends kV_ends dc_ends pm_ends cd_ends ct_ends : Value}
    {f_with_first : Addr} {od_with_first an_with_first : Option Addr} {sl_with_first : Array (Option Value)} {oc_with_first kV_with_first dc_with_first pm_with_first cd_with_first ct_with_first : Value}
    {f_with_last : Addr} {od_with_last an_with_last : Option Addr} {sl_with_last : Array (Option Value)} {oc_with_last kV_with_last dc_with_last pm_with_last cd_with_last ct_with_last : Value}
    {f_flipped : Addr} {od_flipped an_flipped : Option Addr} {sl_flipped : Array (Option Value)} {oc_flipped kV_flipped dc_flipped pm_flipped cd_flipped ct_flipped : Value}
    {f_settled : Addr} {od_settled an_settled : Option Addr} {sl_settled : Array (Option Value)} {oc_settled kV_settled dc_settled pm_settled cd_settled ct_settled : Value}
    {f_pressed : Addr} {od_pressed an_pressed : Option Addr} {sl_pressed : Array (Option Value)} {oc_pressed kV_pressed dc_pressed pm_pressed cd_pressed ct_pressed : Value}
    {f_plain : Addr} {od_plain an_plain : Option Addr} {sl_plain : Array (Option Value)} {oc_plain kV_plain dc_plain pm_plain cd_plain ct_plain : Value}
    {f_same : Addr} {od_same an_same : Option Addr} {sl_same : Array (Option Value)} {oc_same kV_same dc_same pm_same cd_same ct_same : Value}
    {f__law_cell : Addr} {od__law_cell an__law_cell : Option Addr} {sl__law_cell : Array (Option Value)} {oc__law_cell kV__law_cell dc__law_cell pm__law_cell cd__law_cell ct__law_cell : Value}
    {f__law_draws : Addr} {od__law_draws an__law_draws : Option Addr} {sl__law_draws : Array (Option Value)} {oc__law_draws kV__law_draws dc__law_draws pm__law_draws cd__law_draws ct__law_draws : Value}
    {f__law_pool : Addr} {od__law_pool an__law_pool : Option Addr} {sl__law_pool : Array (Option Value)} {oc__law_pool kV__law_pool dc__law_pool pm__law_pool cd__law_pool ct__law_pool : Value}
    {f__law_pick : Addr} {od__law_pick an__law_pick : Option Addr} {sl__law_pick : Array (Option Value)} {oc__law_pick kV__law_pick dc__law_pick pm__law_pick cd__law_pick ct__law_pick : Value}
    {f_inversions : Addr} {od_inversions an_inversions : Option Addr} {sl_inversions : Array (Option Value)} {oc_inversions kV_inversions dc_inversions pm_inversions cd_inversions ct_inversions : Value}
    {f_shortest_for : Addr} {od_shortest_for an_shortest_for : Option Addr} {sl_shortest_for : Array (Option Value)} {oc_shortest_for kV_shortest_for dc_shortest_for pm_shortest_for cd_shortest_for ct_shortest_for : Value}
    {f_is_positive : Addr} {od_is_positive an_is_positive : Option Addr} {sl_is_positive : Array (Option Value)} {oc_is_positive kV_is_positive dc_is_positive pm_is_positive cd_is_positive ct_is_positive : Value}
    {f_length_of : Addr} {od_length_of an_length_of : Option Addr} {sl_length_of : Array (Option Value)} {oc_length_of kV_length_of dc_length_of pm_length_of cd_length_of ct_length_of : Value}
    {f_of_plain : Addr} {od_of_plain an_of_plain : Option Addr} {sl_of_plain : Array (Option Value)} {oc_of_plain kV_of_plain dc_of_plain pm_of_plain cd_of_plain ct_of_plain : Value}
    {f__law_drawn_order : Addr} {od__law_drawn_order an__law_drawn_order : Option Addr} {sl__law_drawn_order : Array (Option Value)} {oc__law_drawn_order kV__law_drawn_order dc__law_drawn_order pm__law_drawn_order cd__law_drawn_order ct__law_drawn_order : Value}
    {f_law : Addr} {od_law an_law : Option Addr} {sl_law : Array (Option Value)} {oc_law kV_law dc_law pm_law cd_law ct_law : Value}
    (a_back : PySem.W.nsIn K mainGlobals "back" = some (some (.ref f_back))) (l_back : K.lookup f_back = some ⟨oc_back, od_back, .func (PySem.W.fnOf "back" "back" (defArgs s_back) (defBody s_back) (defScope s_back) .none kV_back dc_back pm_back an_back cd_back ct_back), sl_back⟩) (c_back : PySem.W.codeIn K cd_back "back" = true) (k_back : PySem.W.keepIn K (.ref f_back) = true)
    (a_order_of : PySem.W.nsIn K mainGlobals "order_of" = some (some (.ref f_order_of))) (l_order_of : K.lookup f_order_of = some ⟨oc_order_of, od_order_of, .func (PySem.W.fnOf "order_of" "order_of" (defArgs s_order_of) (defBody s_order_of) (defScope s_order_of) .none kV_order_of dc_order_of pm_order_of an_order_of cd_order_of ct_order_of), sl_order_of⟩) (c_order_of : PySem.W.codeIn K cd_order_of "order_of" = true) (k_order_of : PySem.W.keepIn K (.ref f_order_of) = true)
    (a_half : PySem.W.nsIn K mainGlobals "half" = some (some (.ref f_half))) (l_half : K.lookup f_half = some ⟨oc_half, od_half, .func (PySem.W.fnOf "half" "half" (defArgs s_half) (defBody s_half) (defScope s_half) .none kV_half dc_half pm_half an_half cd_half ct_half), sl_half⟩) (c_half : PySem.W.codeIn K cd_half "half" = true) (k_half : PySem.W.keepIn K (.ref f_half) = true)
    (a_begins : PySem.W.nsIn K mainGlobals "begins" = some (some (.ref f_begins))) (l_begins : K.lookup f_begins = some ⟨oc_begins, od_begins, .func (PySem.W.fnOf "begins" "begins" (defArgs s_begins) (defBody s_begins) (defScope s_begins) .none kV_begins dc_begins pm_begins an_begins cd_begins ct_begins), sl_begins⟩) (c_begins : PySem.W.codeIn K cd_begins "begins" = true) (k_begins : PySem.W.keepIn K (.ref f_begins) = true)
    (a_ends : PySem.W.nsIn K mainGlobals "ends" = some (some (.ref f_ends))) (l_ends : K.lookup f_ends = some ⟨oc_ends, od_ends, .func (PySem.W.fnOf "ends" "ends" (defArgs s_ends) (defBody s_ends) (defScope s_ends) .none kV_ends dc_ends pm_ends an_ends cd_ends ct_ends), sl_ends⟩) (c_ends : PySem.W.codeIn K cd_ends "ends" = true) (k_ends : PySem.W.keepIn K (.ref f_ends) = true)
    (a_with_first : PySem.W.nsIn K mainGlobals "with_first" = some (some (.ref f_with_first))) (l_with_first : K.lookup f_with_first = some ⟨oc_with_first, od_with_first, .func (PySem.W.fnOf "with_first" "with_first" (defArgs s_with_first) (defBody s_with_first) (defScope s_with_first) .none kV_with_first dc_with_first pm_with_first an_with_first cd_with_first ct_with_first), sl_with_first⟩) (c_with_first : PySem.W.codeIn K cd_with_first "with_first" = true) (k_with_first : PySem.W.keepIn K (.ref f_with_first) = true)
    (a_with_last : PySem.W.nsIn K mainGlobals "with_last" = some (some (.ref f_with_last))) (l_with_last : K.lookup f_with_last = some ⟨oc_with_last, od_with_last, .func (PySem.W.fnOf "with_last" "with_last" (defArgs s_with_last) (defBody s_with_last) (defScope s_with_last) .none kV_with_last dc_with_last pm_with_last an_with_last cd_with_last ct_with_last), sl_with_last⟩) (c_with_last : PySem.W.codeIn K cd_with_last "with_last" = true) (k_with_last : PySem.W.keepIn K (.ref f_with_last) = true)
    (a_flipped : PySem.W.nsIn K mainGlobals "flipped" = some (some (.ref f_flipped))) (l_flipped : K.lookup f_flipped = some ⟨oc_flipped, od_flipped, .func (PySem.W.fnOf "flipped" "flipped" (defArgs s_flipped) (defBody s_flipped) (defScope s_flipped) .none kV_flipped dc_flipped pm_flipped an_flipped cd_flipped ct_flipped), sl_flipped⟩) (c_flipped : PySem.W.codeIn K cd_flipped "flipped" = true) (k_flipped : PySem.W.keepIn K (.ref f_flipped) = true)
    (a_settled : PySem.W.nsIn K mainGlobals "settled" = some (some (.ref f_settled))) (l_settled : K.lookup f_settled = some ⟨oc_settled, od_settled, .func (PySem.W.fnOf "settled" "settled" (defArgs s_settled) (defBody s_settled) (defScope s_settled) .none kV_settled dc_settled pm_settled an_settled cd_settled ct_settled), sl_settled⟩) (c_settled : PySem.W.codeIn K cd_settled "settled" = true) (k_settled : PySem.W.keepIn K (.ref f_settled) = true)
    (a_pressed : PySem.W.nsIn K mainGlobals "pressed" = some (some (.ref f_pressed))) (l_pressed : K.lookup f_pressed = some ⟨oc_pressed, od_pressed, .func (PySem.W.fnOf "pressed" "pressed" (defArgs s_pressed) (defBody s_pressed) (defScope s_pressed) .none kV_pressed dc_pressed pm_pressed an_pressed cd_pressed ct_pressed), sl_pressed⟩) (c_pressed : PySem.W.codeIn K cd_pressed "pressed" = true) (k_pressed : PySem.W.keepIn K (.ref f_pressed) = true)
    (a_plain : PySem.W.nsIn K mainGlobals "plain" = some (some (.ref f_plain))) (l_plain : K.lookup f_plain = some ⟨oc_plain, od_plain, .func (PySem.W.fnOf "plain" "plain" (defArgs s_plain) (defBody s_plain) (defScope s_plain) .none kV_plain dc_plain pm_plain an_plain cd_plain ct_plain), sl_plain⟩) (c_plain : PySem.W.codeIn K cd_plain "plain" = true) (k_plain : PySem.W.keepIn K (.ref f_plain) = true)
    (a_same : PySem.W.nsIn K mainGlobals "same" = some (some (.ref f_same))) (l_same : K.lookup f_same = some ⟨oc_same, od_same, .func (PySem.W.fnOf "same" "same" (defArgs s_same) (defBody s_same) (defScope s_same) .none kV_same dc_same pm_same an_same cd_same ct_same), sl_same⟩) (c_same : PySem.W.codeIn K cd_same "same" = true) (k_same : PySem.W.keepIn K (.ref f_same) = true)
    (a__law_cell : PySem.W.nsIn K mainGlobals "_law_cell" = some (some (.ref f__law_cell))) (l__law_cell : K.lookup f__law_cell = some ⟨oc__law_cell, od__law_cell, .func (PySem.W.fnOf "_law_cell" "_law_cell" (defArgs s__law_cell) (defBody s__law_cell) (defScope s__law_cell) .none kV__law_cell dc__law_cell pm__law_cell an__law_cell cd__law_cell ct__law_cell), sl__law_cell⟩) (c__law_cell : PySem.W.codeIn K cd__law_cell "_law_cell" = true) (k__law_cell : PySem.W.keepIn K (.ref f__law_cell) = true)
    (a__law_draws : PySem.W.nsIn K mainGlobals "_law_draws" = some (some (.ref f__law_draws))) (l__law_draws : K.lookup f__law_draws = some ⟨oc__law_draws, od__law_draws, .func (PySem.W.fnOf "_law_draws" "_law_draws" (defArgs s__law_draws) (defBody s__law_draws) (defScope s__law_draws) .none kV__law_draws dc__law_draws pm__law_draws an__law_draws cd__law_draws ct__law_draws), sl__law_draws⟩) (c__law_draws : PySem.W.codeIn K cd__law_draws "_law_draws" = true) (k__law_draws : PySem.W.keepIn K (.ref f__law_draws) = true)
    (a__law_pool : PySem.W.nsIn K mainGlobals "_law_pool" = some (some (.ref f__law_pool))) (l__law_pool : K.lookup f__law_pool = some ⟨oc__law_pool, od__law_pool, .func (PySem.W.fnOf "_law_pool" "_law_pool" (defArgs s__law_pool) (defBody s__law_pool) (defScope s__law_pool) .none kV__law_pool dc__law_pool pm__law_pool an__law_pool cd__law_pool ct__law_pool), sl__law_pool⟩) (c__law_pool : PySem.W.codeIn K cd__law_pool "_law_pool" = true) (k__law_pool : PySem.W.keepIn K (.ref f__law_pool) = true)
    (a__law_pick : PySem.W.nsIn K mainGlobals "_law_pick" = some (some (.ref f__law_pick))) (l__law_pick : K.lookup f__law_pick = some ⟨oc__law_pick, od__law_pick, .func (PySem.W.fnOf "_law_pick" "_law_pick" (defArgs s__law_pick) (defBody s__law_pick) (defScope s__law_pick) .none kV__law_pick dc__law_pick pm__law_pick an__law_pick cd__law_pick ct__law_pick), sl__law_pick⟩) (c__law_pick : PySem.W.codeIn K cd__law_pick "_law_pick" = true) (k__law_pick : PySem.W.keepIn K (.ref f__law_pick) = true)
    (a_inversions : PySem.W.nsIn K mainGlobals "inversions" = some (some (.ref f_inversions))) (l_inversions : K.lookup f_inversions = some ⟨oc_inversions, od_inversions, .func (PySem.W.fnOf "inversions" "inversions" (defArgs s_inversions) (defBody s_inversions) (defScope s_inversions) .none kV_inversions dc_inversions pm_inversions an_inversions cd_inversions ct_inversions), sl_inversions⟩) (c_inversions : PySem.W.codeIn K cd_inversions "inversions" = true) (k_inversions : PySem.W.keepIn K (.ref f_inversions) = true)
    (a_shortest_for : PySem.W.nsIn K mainGlobals "shortest_for" = some (some (.ref f_shortest_for))) (l_shortest_for : K.lookup f_shortest_for = some ⟨oc_shortest_for, od_shortest_for, .func (PySem.W.fnOf "shortest_for" "shortest_for" (defArgs s_shortest_for) (defBody s_shortest_for) (defScope s_shortest_for) .none kV_shortest_for dc_shortest_for pm_shortest_for an_shortest_for cd_shortest_for ct_shortest_for), sl_shortest_for⟩) (c_shortest_for : PySem.W.codeIn K cd_shortest_for "shortest_for" = true) (k_shortest_for : PySem.W.keepIn K (.ref f_shortest_for) = true)
    (a_is_positive : PySem.W.nsIn K mainGlobals "is_positive" = some (some (.ref f_is_positive))) (l_is_positive : K.lookup f_is_positive = some ⟨oc_is_positive, od_is_positive, .func (PySem.W.fnOf "is_positive" "is_positive" (defArgs s_is_positive) (defBody s_is_positive) (defScope s_is_positive) .none kV_is_positive dc_is_positive pm_is_positive an_is_positive cd_is_positive ct_is_positive), sl_is_positive⟩) (c_is_positive : PySem.W.codeIn K cd_is_positive "is_positive" = true) (k_is_positive : PySem.W.keepIn K (.ref f_is_positive) = true)
    (a_length_of : PySem.W.nsIn K mainGlobals "length_of" = some (some (.ref f_length_of))) (l_length_of : K.lookup f_length_of = some ⟨oc_length_of, od_length_of, .func (PySem.W.fnOf "length_of" "length_of" (defArgs s_length_of) (defBody s_length_of) (defScope s_length_of) .none kV_length_of dc_length_of pm_length_of an_length_of cd_length_of ct_length_of), sl_length_of⟩) (c_length_of : PySem.W.codeIn K cd_length_of "length_of" = true) (k_length_of : PySem.W.keepIn K (.ref f_length_of) = true)
    (a_of_plain : PySem.W.nsIn K mainGlobals "of_plain" = some (some (.ref f_of_plain))) (l_of_plain : K.lookup f_of_plain = some ⟨oc_of_plain, od_of_plain, .func (PySem.W.fnOf "of_plain" "of_plain" (defArgs s_of_plain) (defBody s_of_plain) (defScope s_of_plain) .none kV_of_plain dc_of_plain pm_of_plain an_of_plain cd_of_plain ct_of_plain), sl_of_plain⟩) (c_of_plain : PySem.W.codeIn K cd_of_plain "of_plain" = true) (k_of_plain : PySem.W.keepIn K (.ref f_of_plain) = true)
    (a__law_drawn_order : PySem.W.nsIn K mainGlobals "_law_drawn_order" = some (some (.ref f__law_drawn_order))) (l__law_drawn_order : K.lookup f__law_drawn_order = some ⟨oc__law_drawn_order, od__law_drawn_order, .func (PySem.W.fnOf "_law_drawn_order" "_law_drawn_order" (defArgs s__law_drawn_order) (defBody s__law_drawn_order) (defScope s__law_drawn_order) .none kV__law_drawn_order dc__law_drawn_order pm__law_drawn_order an__law_drawn_order cd__law_drawn_order ct__law_drawn_order), sl__law_drawn_order⟩) (c__law_drawn_order : PySem.W.codeIn K cd__law_drawn_order "_law_drawn_order" = true) (k__law_drawn_order : PySem.W.keepIn K (.ref f__law_drawn_order) = true)
    (a_law : PySem.W.nsIn K mainGlobals "law" = some (some (.ref f_law))) (l_law : K.lookup f_law = some ⟨oc_law, od_law, .func (PySem.W.fnOf "law" "law" (defArgs s_law) (defBody s_law) (defScope s_law) .none kV_law dc_law pm_law an_law cd_law ct_law), sl_law⟩) (c_law : PySem.W.codeIn K cd_law "law" = true) (k_law : PySem.W.keepIn K (.ref f_law) = true)
    (z_abs : PySem.W.nsIn K mainGlobals "abs" = some none)
    (z_all : PySem.W.nsIn K mainGlobals "all" = some none)
    (z_bool : PySem.W.nsIn K mainGlobals "bool" = some none)
    (z_dict : PySem.W.nsIn K mainGlobals "dict" = some none)
    (z_int : PySem.W.nsIn K mainGlobals "int" = some none)
    (z_isinstance : PySem.W.nsIn K mainGlobals "isinstance" = some none)
    (z_len : PySem.W.nsIn K mainGlobals "len" = some none)
    (z_list : PySem.W.nsIn K mainGlobals "list" = some none)
    (z_max : PySem.W.nsIn K mainGlobals "max" = some none)
    (z_min : PySem.W.nsIn K mainGlobals "min" = some none)
    (z_range : PySem.W.nsIn K mainGlobals "range" = some none)
    (z_set : PySem.W.nsIn K mainGlobals "set" = some none)
    (z_sorted : PySem.W.nsIn K mainGlobals "sorted" = some none)
    (z_sum : PySem.W.nsIn K mainGlobals "sum" = some none)
    (z_tuple : PySem.W.nsIn K mainGlobals "tuple" = some none)
    : ∃ fd : FuncData, (∀ (s : Shared) (v : Value), BindsTo s fd ⟨[v], []⟩ [("script", v)]) ∧ ∀ base : Heap, K.In base → base.Ns mainGlobals mg → FnOk l.prog w K mg base CX0 6 fa fd ["script"] (spLaw K) := by
  have e := hfa.symm.trans (PySem.W.mg_of X G a_law)
  cases e
  have F_back := fun_mk (st := s_back) l_back c_back k_back
  have b_back := F_back.binds (ps := ["braid"]) fun _ _ _ _ _ _ us hl => match us, hl with | [_], _ => rfl
  have F_order_of := fun_mk (st := s_order_of) l_order_of c_order_of k_order_of
  have b_order_of := F_order_of.binds (ps := ["n", "braid"]) fun _ _ _ _ _ _ us hl => match us, hl with | [_, _], _ => rfl
  have F_half := fun_mk (st := s_half) l_half c_half k_half
  have b_half := F_half.binds (ps := ["n"]) fun _ _ _ _ _ _ us hl => match us, hl with | [_], _ => rfl
  have F_begins := fun_mk (st := s_begins) l_begins c_begins k_begins
  have b_begins := F_begins.binds (ps := ["order"]) fun _ _ _ _ _ _ us hl => match us, hl with | [_], _ => rfl
  have F_ends := fun_mk (st := s_ends) l_ends c_ends k_ends
  have b_ends := F_ends.binds (ps := ["order"]) fun _ _ _ _ _ _ us hl => match us, hl with | [_], _ => rfl
  have F_with_first := fun_mk (st := s_with_first) l_with_first c_with_first k_with_first
  have b_with_first := F_with_first.binds (ps := ["order", "k"]) fun _ _ _ _ _ _ us hl => match us, hl with | [_, _], _ => rfl
  have F_with_last := fun_mk (st := s_with_last) l_with_last c_with_last k_with_last
  have b_with_last := F_with_last.binds (ps := ["order", "k"]) fun _ _ _ _ _ _ us hl => match us, hl with | [_, _], _ => rfl
  have F_flipped := fun_mk (st := s_flipped) l_flipped c_flipped k_flipped
  have b_flipped := F_flipped.binds (ps := ["order"]) fun _ _ _ _ _ _ us hl => match us, hl with | [_], _ => rfl
  have F_settled := fun_mk (st := s_settled) l_settled c_settled k_settled
  have b_settled := F_settled.binds (ps := ["one", "two"]) fun _ _ _ _ _ _ us hl => match us, hl with | [_, _], _ => rfl
  have F_pressed := fun_mk (st := s_pressed) l_pressed c_pressed k_pressed
  have b_pressed := F_pressed.binds (ps := ["rows"]) fun _ _ _ _ _ _ us hl => match us, hl with | [_], _ => rfl
  have F_plain := fun_mk (st := s_plain) l_plain c_plain k_plain
  have b_plain := F_plain.binds (ps := ["n", "braid"]) fun _ _ _ _ _ _ us hl => match us, hl with | [_, _], _ => rfl
  have F_same := fun_mk (st := s_same) l_same c_same k_same
  have b_same := F_same.binds (ps := ["n", "one", "two"]) fun _ _ _ _ _ _ us hl => match us, hl with | [_, _, _], _ => rfl
  have F__law_cell := fun_mk (st := s__law_cell) l__law_cell c__law_cell k__law_cell
  have b__law_cell := F__law_cell.binds (ps := ["script", "k"]) fun _ _ _ _ _ _ us hl => match us, hl with | [_, _], _ => rfl
  have F__law_draws := fun_mk (st := s__law_draws) l__law_draws c__law_draws k__law_draws
  have b__law_draws := F__law_draws.binds (ps := ["cell", "amount"]) fun _ _ _ _ _ _ us hl => match us, hl with | [_, _], _ => rfl
  have F__law_pool := fun_mk (st := s__law_pool) l__law_pool c__law_pool k__law_pool
  have b__law_pool := F__law_pool.binds (ps := ["script"]) fun _ _ _ _ _ _ us hl => match us, hl with | [_], _ => rfl
  have F__law_pick := fun_mk (st := s__law_pick) l__law_pick c__law_pick k__law_pick
  have b__law_pick := F__law_pick.binds (ps := ["pool", "amount"]) fun _ _ _ _ _ _ us hl => match us, hl with | [_, _], _ => rfl
  have F_inversions := fun_mk (st := s_inversions) l_inversions c_inversions k_inversions
  have b_inversions := F_inversions.binds (ps := ["order"]) fun _ _ _ _ _ _ us hl => match us, hl with | [_], _ => rfl
  have F_shortest_for := fun_mk (st := s_shortest_for) l_shortest_for c_shortest_for k_shortest_for
  have b_shortest_for := F_shortest_for.binds (ps := ["order"]) fun _ _ _ _ _ _ us hl => match us, hl with | [_], _ => rfl
  have F_is_positive := fun_mk (st := s_is_positive) l_is_positive c_is_positive k_is_positive
  have b_is_positive := F_is_positive.binds (ps := ["n", "braid"]) fun _ _ _ _ _ _ us hl => match us, hl with | [_, _], _ => rfl
  have F_length_of := fun_mk (st := s_length_of) l_length_of c_length_of k_length_of
  have b_length_of := F_length_of.binds (ps := ["n", "braid"]) fun _ _ _ _ _ _ us hl => match us, hl with | [_, _], _ => rfl
  have F_of_plain := fun_mk (st := s_of_plain) l_of_plain c_of_plain k_of_plain
  have b_of_plain := F_of_plain.binds (ps := ["n", "form"]) fun _ _ _ _ _ _ us hl => match us, hl with | [_, _], _ => rfl
  have F__law_drawn_order := fun_mk (st := s__law_drawn_order) l__law_drawn_order c__law_drawn_order k__law_drawn_order
  have b__law_drawn_order := F__law_drawn_order.binds (ps := ["pool", "n"]) fun _ _ _ _ _ _ us hl => match us, hl with | [_, _], _ => rfl
  have F_law := fun_mk (st := s_law) l_law c_law k_law
  have m_abs := PySem.W.mg_none_of X G z_abs
  have m_all := PySem.W.mg_none_of X G z_all
  have m_bool := PySem.W.mg_none_of X G z_bool
  have m_dict := PySem.W.mg_none_of X G z_dict
  have m_int := PySem.W.mg_none_of X G z_int
  have m_isinstance := PySem.W.mg_none_of X G z_isinstance
  have m_len := PySem.W.mg_none_of X G z_len
  have m_list := PySem.W.mg_none_of X G z_list
  have m_max := PySem.W.mg_none_of X G z_max
  have m_min := PySem.W.mg_none_of X G z_min
  have m_range := PySem.W.mg_none_of X G z_range
  have m_set := PySem.W.mg_none_of X G z_set
  have m_sorted := PySem.W.mg_none_of X G z_sorted
  have m_sum := PySem.W.mg_none_of X G z_sum
  have m_tuple := PySem.W.mg_none_of X G z_tuple
  have m : Bl mg := ⟨m_abs, m_all, m_bool, m_dict, m_int, m_isinstance, m_len, m_list, m_max, m_min, m_range, m_set, m_sorted, m_sum, m_tuple⟩
  refine ⟨PySem.W.fnOf "law" "law" (defArgs s_law) (defBody s_law) (defScope s_law) .none kV_law dc_law pm_law an_law cd_law ct_law, fun s v => .of_eq rfl, fun base _ _ => ?_⟩
  have d_back := DefOk.mk' (P := l.prog) (w := w) (base := base) F_back (ok_back F_back m) (PySem.W.mg_of X G a_back) b_back
  have d_order_of := DefOk.mk' (P := l.prog) (w := w) (base := base) F_order_of (ok_order_of F_order_of m) (PySem.W.mg_of X G a_order_of) b_order_of
  have d_half := DefOk.mk' (P := l.prog) (w := w) (base := base) F_half (ok_half F_half m) (PySem.W.mg_of X G a_half) b_half
  have d_begins := DefOk.mk' (P := l.prog) (w := w) (base := base) F_begins (ok_begins F_begins m) (PySem.W.mg_of X G a_begins) b_begins
  have d_ends := DefOk.mk' (P := l.prog) (w := w) (base := base) F_ends (ok_ends F_ends m) (PySem.W.mg_of X G a_ends) b_ends
  have d_with_first := DefOk.mk' (P := l.prog) (w := w) (base := base) F_with_first (ok_with_first F_with_first m) (PySem.W.mg_of X G a_with_first) b_with_first
  have d_with_last := DefOk.mk' (P := l.prog) (w := w) (base := base) F_with_last (ok_with_last F_with_last m) (PySem.W.mg_of X G a_with_last) b_with_last
  have d_flipped := DefOk.mk' (P := l.prog) (w := w) (base := base) F_flipped (ok_flipped F_flipped m) (PySem.W.mg_of X G a_flipped) b_flipped
  have d_settled := DefOk.mk' (P := l.prog) (w := w) (base := base) F_settled (ok_settled F_settled m d_begins d_ends d_with_last d_with_first) (PySem.W.mg_of X G a_settled) b_settled
  have d_pressed := DefOk.mk' (P := l.prog) (w := w) (base := base) F_pressed (ok_pressed F_pressed m d_settled) (PySem.W.mg_of X G a_pressed) b_pressed
  have d_plain := DefOk.mk' (P := l.prog) (w := w) (base := base) F_plain (ok_plain F_plain m d_with_last d_flipped d_pressed) (PySem.W.mg_of X G a_plain) b_plain
  have d_same := DefOk.mk' (P := l.prog) (w := w) (base := base) F_same (ok_same F_same m d_plain) (PySem.W.mg_of X G a_same) b_same
  have d__law_cell := DefOk.mk' (P := l.prog) (w := w) (base := base) F__law_cell (ok__law_cell F__law_cell m) (PySem.W.mg_of X G a__law_cell) b__law_cell
  have d__law_draws := DefOk.mk' (P := l.prog) (w := w) (base := base) F__law_draws (ok__law_draws F__law_draws m) (PySem.W.mg_of X G a__law_draws) b__law_draws
  have d__law_pool := DefOk.mk' (P := l.prog) (w := w) (base := base) F__law_pool (ok__law_pool F__law_pool m trivial d__law_cell d__law_draws) (PySem.W.mg_of X G a__law_pool) b__law_pool
  have d__law_pick := DefOk.mk' (P := l.prog) (w := w) (base := base) F__law_pick (ok__law_pick F__law_pick m) (PySem.W.mg_of X G a__law_pick) b__law_pick
  have d_inversions := DefOk.mk' (P := l.prog) (w := w) (base := base) F_inversions (ok_inversions F_inversions m) (PySem.W.mg_of X G a_inversions) b_inversions
  have d_shortest_for := DefOk.mk' (P := l.prog) (w := w) (base := base) F_shortest_for (ok_shortest_for F_shortest_for m) (PySem.W.mg_of X G a_shortest_for) b_shortest_for
  have d_is_positive := DefOk.mk' (P := l.prog) (w := w) (base := base) F_is_positive (ok_is_positive F_is_positive m d_plain) (PySem.W.mg_of X G a_is_positive) b_is_positive
  have d_length_of := DefOk.mk' (P := l.prog) (w := w) (base := base) F_length_of (ok_length_of F_length_of m d_plain d_half d_inversions) (PySem.W.mg_of X G a_length_of) b_length_of
  have d_of_plain := DefOk.mk' (P := l.prog) (w := w) (base := base) F_of_plain (ok_of_plain F_of_plain m d_half d_back d_shortest_for) (PySem.W.mg_of X G a_of_plain) b_of_plain
  have d__law_drawn_order := DefOk.mk' (P := l.prog) (w := w) (base := base) F__law_drawn_order (ok__law_drawn_order F__law_drawn_order m d__law_pick) (PySem.W.mg_of X G a__law_drawn_order) b__law_drawn_order
  exact ok_law F_law m d__law_pool d__law_pick d__law_drawn_order d_shortest_for d_order_of d_length_of d_is_positive d_plain d_same d_of_plain d_back d_begins d_ends d_half
end K69
open PySem PySem.W PyProof.Rows
set_option maxHeartbeats 0 in
theorem PySem.Challenge.cw_knotwright_k69_whole_braids_of_orders_holds : PySem.Challenge.rw_knotwright_k69_whole_braids_of_orders.Holds := by
  w_on; o_law; k_head; (case hw => w_witness2)
  k_fill
  refine L2.walk_of (l := PySem.Challenge.rw_knotwright_k69_whole_braids_of_orders) (n := 63) (k := 6) (x := "script") (CX := fun _ => L2.CX0) (sp := fun w => K69.spLaw _) rfl (by decide) rfl ⟨rfl, by decide, by decide⟩ (fun w h Y => PySem.W.kIn_of Y) ?F (fun _ _ a ns hl _ hS => ⟨ns, K69.arg_list hS, by omega, fun _ => rfl⟩) (fun _ _ _ _ _ h => h)
  case F =>
    intro w mg fa h KX G hmg
    refine' K69.all_mk KX G hmg ?a_back ?l_back ?c_back ?k_back ?a_order_of ?l_order_of ?c_order_of ?k_order_of ?a_half ?l_half ?c_half ?k_half ?a_begins ?l_begins ?c_begins ?k_begins ?a_ends ?l_ends ?c_ends ?k_ends ?a_with_first ?l_with_first ?c_with_first ?k_with_first ?a_with_last ?l_with_last ?c_with_last ?k_with_last ?a_flipped ?l_flipped ?c_flipped ?k_flipped ?a_settled ?l_settled ?c_settled ?k_settled ?a_pressed ?l_pressed ?c_pressed ?k_pressed ?a_plain ?l_plain ?c_plain ?k_plain ?a_same ?l_same ?c_same ?k_same ?a__law_cell ?l__law_cell ?c__law_cell ?k__law_cell ?a__law_draws ?l__law_draws ?c__law_draws ?k__law_draws ?a__law_pool ?l__law_pool ?c__law_pool ?k__law_pool ?a__law_pick ?l__law_pick ?c__law_pick ?k__law_pick ?a_inversions ?l_inversions ?c_inversions ?k_inversions ?a_shortest_for ?l_shortest_for ?c_shortest_for ?k_shortest_for ?a_is_positive ?l_is_positive ?c_is_positive ?k_is_positive ?a_length_of ?l_length_of ?c_length_of ?k_length_of ?a_of_plain ?l_of_plain ?c_of_plain ?k_of_plain ?a__law_drawn_order ?l__law_drawn_order ?c__law_drawn_order ?k__law_drawn_order ?a_law ?l_law ?c_law ?k_law ?z_abs ?z_all ?z_bool ?z_dict ?z_int ?z_isinstance ?z_len ?z_list ?z_max ?z_min ?z_range ?z_set ?z_sorted ?z_sum ?z_tuple
    (case a_back => k_is); (case l_back => k_is); (case c_back => k_is); (case k_back => k_is); (case a_order_of => k_is); (case l_order_of => k_is); (case c_order_of => k_is); (case k_order_of => k_is); (case a_half => k_is); (case l_half => k_is); (case c_half => k_is); (case k_half => k_is); (case a_begins => k_is); (case l_begins => k_is); (case c_begins => k_is); (case k_begins => k_is); (case a_ends => k_is); (case l_ends => k_is); (case c_ends => k_is); (case k_ends => k_is); (case a_with_first => k_is); (case l_with_first => k_is); (case c_with_first => k_is); (case k_with_first => k_is); (case a_with_last => k_is); (case l_with_last => k_is); (case c_with_last => k_is); (case k_with_last => k_is); (case a_flipped => k_is); (case l_flipped => k_is); (case c_flipped => k_is); (case k_flipped => k_is); (case a_settled => k_is); (case l_settled => k_is); (case c_settled => k_is); (case k_settled => k_is); (case a_pressed => k_is); (case l_pressed => k_is); (case c_pressed => k_is); (case k_pressed => k_is); (case a_plain => k_is); (case l_plain => k_is); (case c_plain => k_is); (case k_plain => k_is); (case a_same => k_is); (case l_same => k_is); (case c_same => k_is); (case k_same => k_is); (case a__law_cell => k_is); (case l__law_cell => k_is); (case c__law_cell => k_is); (case k__law_cell => k_is); (case a__law_draws => k_is); (case l__law_draws => k_is); (case c__law_draws => k_is); (case k__law_draws => k_is); (case a__law_pool => k_is); (case l__law_pool => k_is); (case c__law_pool => k_is); (case k__law_pool => k_is); (case a__law_pick => k_is); (case l__law_pick => k_is); (case c__law_pick => k_is); (case k__law_pick => k_is); (case a_inversions => k_is); (case l_inversions => k_is); (case c_inversions => k_is); (case k_inversions => k_is); (case a_shortest_for => k_is); (case l_shortest_for => k_is); (case c_shortest_for => k_is); (case k_shortest_for => k_is); (case a_is_positive => k_is); (case l_is_positive => k_is); (case c_is_positive => k_is); (case k_is_positive => k_is); (case a_length_of => k_is); (case l_length_of => k_is); (case c_length_of => k_is); (case k_length_of => k_is); (case a_of_plain => k_is); (case l_of_plain => k_is); (case c_of_plain => k_is); (case k_of_plain => k_is); (case a__law_drawn_order => k_is); (case l__law_drawn_order => k_is); (case c__law_drawn_order => k_is); (case k__law_drawn_order => k_is); (case a_law => k_is); (case l_law => k_is); (case c_law => k_is); (case k_law => k_is); (case z_abs => k_is); (case z_all => k_is); (case z_bool => k_is); (case z_dict => k_is); (case z_int => k_is); (case z_isinstance => k_is); (case z_len => k_is); (case z_list => k_is); (case z_max => k_is); (case z_min => k_is); (case z_range => k_is); (case z_set => k_is); (case z_sorted => k_is); (case z_sum => k_is); (case z_tuple => k_is)
