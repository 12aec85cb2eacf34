import PyProof.Rows.All
import Wide.All
import OpenK.AllK
import Wide.FinOn
import HandS.ForMost
import HandS.Wide
import HandS.Gcd
import HandS.Walk
import HandS.Zip
import HandS.Conv
import HandS.IsInst
import HandS.More
import HandS.Strs
import HandS.Style
import HandS.TupLe
import HandS.RevRange
import HandS.Deep
import HandS.TupAny
import HandS.TupMul
import KE.KMathGC
import KE.GoesNew
import KE.GoesMore
import KE.KIndexOf
import KE.KDictPairs
import PySem.Challenge.RW_sumsbetray_k76_whole_ways
set_option Elab.async false
set_option linter.all false
set_option maxRecDepth 100000
set_option maxHeartbeats 4000000
/-! Pf: tuples are made so that their object is known (no dict of its own): their methods can be called. -/
namespace Pf
open PySem PySem.Spec PyProof.Rows L2
abbrev Fg := PySem.W.Frag
/-- a tuple whose object has no dict: one that was made, or of the written part -/
def TupQ (K : Fg) (H : Hp) (a : Addr) (xs : List V) : Prop := (∃ o, H a = some (.frz o (.tup xs)) ∧ o.dict = none) ∨
  ∃ (o : Obj) (its : Array Value) (n : Nat), K.lookup a = some o ∧ o.cls = .type "tuple" ∧ o.dict = none ∧ o.data = .seq its n ∧ its.size ≤ sizeLine ∧ Vals xs its.toList
theorem TupQ.sq {K : Fg} {H : Hp} {a : Addr} {xs : List V} (h : TupQ K H a xs) : SqT K H a xs := by
  rcases h with ⟨o, h, _⟩ | ⟨o, its, n, h1, h2, _, h3⟩
  · exact .inl (.inr ⟨o, h⟩)
  · exact .inr ⟨o, its, n, h1, h2, h3⟩
theorem tq_mono {K : Fg} {G H : Hp} (s : Same G H) {a : Addr} {xs : List V} (h : TupQ K G a xs) : TupQ K H a xs := by
  rcases h with ⟨o, h, d⟩ | h
  · exact .inl ⟨o, s _ _ h, d⟩
  · exact .inr h
section
variable {X : Cx} {es : List Expr} {t : TA} {pos : Pos}
/-- what the frozen new tuple asks -/
theorem frz_new {P : Program} {w : World} {H : Hp} {h : Heap} {p : Addr} {us : List Value} {xs : List V} (e : h.get? p = some { cls := .type "tuple", data := .seq us.toArray }) (r : Vals xs us) (z : xs.length ≤ sizeLine) :
    ObjOk P w H h p (.frz { cls := .type "tuple", data := .seq us.toArray } (.tup xs)) := ⟨e, z, us, r, ⟨_, e, rfl, _, rfl⟩⟩
theorem pe_tupF {x1 : Nat} (h : PA X es t) : PE X (.Tuple es x1 pos) (fun σ H Q => t σ H fun xs H1 => xs.length ≤ sizeLine ∧ ∀ p o, o.dict = none → H1 p = none → Q (.ref p) (upd H1 p (.frz o (.tup xs)))) := by
  refine ⟨fun pins s σ H Q I hq => wpAny_Tuple_spliced (thn (h.run pos pins s σ H _ I hq) fun us s1 ⟨xs, H1, I1, r, z, q⟩ => ⟨by rw [← r.length]; exact z, ?_⟩)⟩
  exact ⟨.ref s1.heap.objs.size, _, I1.laid (t' := s1.toks) (fun b u e => Heap.get?_push_of_some _ e) (Nat.le_refl _) (frz_new (Heap.get?_push_size _ rfl) r z), rfl, q _ _ rfl (I1.hok.fresh (Nat.le_refl _))⟩
theorem call_tupleF : CallR X (.type "tuple") (fun xs H Q => ∃ p ys, xs = [.ref p] ∧ ((SqL X.K H p ys ∧ ∀ l o, o.dict = none → H l = none → Q (.ref l) (upd H l (.frz o (.tup ys)))) ∨ (SqT X.K H p ys ∧ Q (.ref p) H))) := by
  intro pins s σ H xs us Q I r h
  obtain ⟨p, ys, rfl, h⟩ := h
  obtain ⟨u, rfl, rx⟩ := vals1 r
  cases rx
  rcases h with ⟨hq, q⟩ | ⟨hq, q⟩
  · obtain ⟨its, r', pl, hz⟩ := I.list hq
    have hlen := r'.length
    refine call_tuple_list pl.isList (fun h' kp => ?_) (by simp only [List.size_toArray] <;> omega)
    have I1 : Inv X pins σ H { s with heap := h' } := I.kept (t' := s.toks) kp
    exact ⟨.ref h'.objs.size, _, I1.laid (t' := s.toks) (fun b o e => Heap.get?_push_of_some _ e) (Nat.le_refl _) (frz_new (Heap.get?_push_size _ rfl) r' hz), rfl, q _ _ rfl (I1.hok.fresh (Nat.le_refl _))⟩
  · obtain ⟨its, r', pl, hz⟩ := I.tuple hq
    exact call_tuple_same pl ⟨.ref p, H, I, rfl, q⟩
def rCatF (K : Fg) : R2 := fun x y H Q => ∃ a b xs ys, x = .ref a ∧ y = .ref b ∧ SqT K H a xs ∧ SqT K H b ys ∧ xs.length + ys.length ≤ sizeLine ∧
  (xs = [] → Q (.ref b) H) ∧ (xs ≠ [] → ys = [] → Q (.ref a) H) ∧ (xs ≠ [] → ys ≠ [] → ∀ p o, o.dict = none → H p = none → Q (.ref p) (upd H p (.frz o (.tup (xs ++ ys)))))
theorem op_catF : OpR X (binaryOp .Add) (rCatF X.K) := by
  intro pins s σ H x y v u Q I rx ry h
  obtain ⟨a, b, xs, ys, rfl, rfl, ha, hb, hz, q0, q1, q2⟩ := h
  cases rx
  cases ry
  obtain ⟨its, r1, p1, _⟩ := I.tuple ha
  obtain ⟨its2, r2, p2, _⟩ := I.tuple hb
  by_cases hx : xs = []
  · subst hx
    cases r1
    exact cat_tup0 p1 p2 ⟨.ref b, H, I, rfl, q0 rfl⟩
  · refine HT.cat_tup p1 p2 (fun z => hx (r1.nil_iff.mp z)) (fun z => ⟨.ref a, H, I, rfl, q1 hx (r2.nil_iff.mp z)⟩) (fun z => ?_) (by rw [← r1.length, ← r2.length]; exact hz)
    exact ⟨.ref s.heap.objs.size, _, I.laid (t' := s.toks) (fun b ob q => Heap.get?_push_of_some _ q) (Nat.le_refl _) (frz_new (Heap.get?_push_size _ rfl) (r1.append r2) (by rw [List.length_append]; exact hz)), rfl, q2 hx (fun w => z (r2.nil_iff.mpr w)) _ _ rfl (I.hok.fresh (Nat.le_refl _))⟩
def rSlF (K : Fg) : V → Option Int → Option Int → Hp → VK → Prop := fun x lo hi H Q => ∃ a xs, x = .ref a ∧ SqT K H a xs ∧
  (HT.sIx xs.length 0 lo = 0 ∧ HT.sIx xs.length xs.length hi = xs.length → Q (.ref a) H) ∧ (¬ (HT.sIx xs.length 0 lo = 0 ∧ HT.sIx xs.length xs.length hi = xs.length) → ∀ p o, o.dict = none → H p = none → Q (.ref p) (upd H p (.frz o (.tup (cutV xs lo hi)))))
theorem sl_tupF : SlR X (rSlF X.K) := by
  intro pins s σ H x v vl vu lo hi sl Q I rx hs pl pu h
  obtain ⟨a, xs, rfl, hx, q1, q2⟩ := h
  cases rx
  obtain ⟨its, r, ht, hz⟩ := I.tuple hx
  have hlen : its.toArray.size = xs.length := by rw [List.size_toArray]; exact r.length.symm
  refine ⟨"tuple", _, PyProof.Rows.slot_tuple_getitem.lookup, ht.typeIs, ?_⟩
  by_cases hw : HT.sIx xs.length 0 lo = 0 ∧ HT.sIx xs.length xs.length hi = xs.length
  · exact getItem_tuple_whole ht hs pl pu (by rw [hlen]; exact hw) ⟨.ref a, H, I, rfl, q1 hw⟩
  · refine HT.getItem_tuple_cut ht hs pl pu (by rw [hlen]; exact hw) ?_ (by rw [hlen]; exact hz)
    rw [hlen]
    exact ⟨.ref s.heap.objs.size, _, I.laid (t' := s.toks) (fun b ob q => Heap.get?_push_of_some _ q) (Nat.le_refl _) (frz_new (Heap.get?_push_size _ rfl) ((r.drop (HT.sIx xs.length 0 lo)).take (HT.sIx xs.length xs.length hi - HT.sIx xs.length 0 lo)) (Nat.le_trans (cutV_length xs lo hi) hz)), rfl, q2 hw _ _ rfl (I.hok.fresh (Nat.le_refl _))⟩
/-- t * n -/
def rRepF (K : Fg) : R2 := fun x y H Q => ∃ l k xs, x = .ref l ∧ y = .int k ∧ SqT K H l xs ∧ xs ≠ [] ∧ 2 ≤ k ∧ k ≤ 1000 ∧ xs.length ≤ 1000 ∧ ∀ p o, o.dict = none → H p = none → Q (.ref p) (upd H p (.frz o (.tup (List.replicate k.toNat xs).flatten)))
theorem op_repF : OpR X (binaryOp .Mult) (rRepF X.K) := by
  intro pins s σ H x y v u Q I rx ry ⟨l, k, xs, ex, ey, hT, hne, h1, h2, hz, q⟩
  subst ex ey
  cases rx
  obtain ⟨t, rfl⟩ := ry
  obtain ⟨its, r, ⟨⟨cls, dd, data, sl⟩, ho, hc, n, hd⟩, hs⟩ := I.tuple hT
  dsimp only at hc hd
  subst hc hd
  have hle := r.length
  have hi : its.toArray.isEmpty = false := by
    cases its with
    | nil => exact absurd (List.eq_nil_of_length_eq_zero hle) hne
    | cons a b => rfl
  have sz : its.toArray.size = xs.length := by rw [List.size_toArray, hle]
  have big : ((xs.length : Nat) : Int) * k ≤ 1000000 := by
    have := Int.mul_le_mul_of_nonneg_right (show ((xs.length : Nat) : Int) ≤ 1000 by omega) (show 0 ≤ k by omega)
    omega
  have fl : k.toNat * xs.length ≤ sizeLine := by
    rw [sizeLine_eq]
    have := Nat.mul_le_mul (show k.toNat ≤ 1000 by omega) hz
    omega
  have lenR : (List.replicate k.toNat xs).flatten.length ≤ sizeLine := by rw [PyProof.Rows.lm_len_rep_flat]; exact fl
  have W := L2.tuple_mulW l its.toArray n dd sl k t (by rw [decide_eq_false (show ¬ k < -(2 ^ 63) by omega), decide_eq_false (show ¬ k ≥ 2 ^ 63 by omega)] <;> rfl) (by rw [hi, Bool.false_or]; exact beq_eq_false_iff_ne.mpr (by omega)) (by rw [hi, Bool.or_false]; exact decide_eq_false (by omega))
    (by rw [sz]; omega) (by unfold Builtin.Tuple.tupleTooMany; rw [sizeLine_eq, sz]; exact decide_eq_false (by omega)) (by rw [L2.size_rep, List.size_toArray, PyProof.Rows.lm_len_rep_flat, ← hle]; exact fl)
  refine wpAny_binaryOp_repeat_ref (T := "tuple") (U := "int") (by decide) ⟨_, ho, rfl⟩ (fun s' => typeIs_int s' k t) L2.noFill_tuple_mul F.fills_int_mul F.slot_int_rmul L2.repeat_tuple F.slot_int_index.lookup
    (call_meets F.slot_int_rmul (typeIs_int s k t) F.entry_int_rmul (F.args_int_rmul_2 _ _) (L2.int_rmul_tuple k t l its.toArray n dd sl) ⟨ho, rfl, ⟨_, ho, rfl⟩, call_meets F.slot_tuple_mul ⟨_, ho, rfl⟩ F.entry_tuple_mul (F.args_tuple_mul_2 _ _) W ⟨ho, ?_⟩⟩)
  rw [L2.size_rep]
  exact ⟨.ref s.heap.objs.size, _, I.laid (t' := s.toks) (fun b ob q => Heap.get?_push_of_some _ q) (Nat.le_refl _) (frz_new (Heap.get?_push_size _ rfl) (r.rep k.toNat) lenR), rfl, q _ _ rfl (I.hok.fresh (Nat.le_refl _))⟩
/-- a method of a tuple -/
theorem pe_tm {o e : Expr} {to te : TE} {name : Str} {apos cpos : Pos} {id : String} {r : V → List V → Hp → VK → Prop} (slot : Slot "tuple" name id) (hty : typeOf (.builtin id) = pure (.type "method_descriptor")) (hm : MtR X id r) (ho : PE X o to) (ha : PA X [e] t)
    (hbase : attributeBase o name X.env (eval o X.env) = eval o X.env := by rfl)
    (hfew : ((backTo cpos (starEach [e] X.env)).all (fun x => !x.1) && (backToKw cpos (keywordEach [] X.env)).all (fun x => x.1.isSome)
      && decide (([e] : List Expr).length + ([] : List Keyword).length + (if ([] : List Keyword).isEmpty then 0 else 1) < 30)) = true := by rfl)
    (hline : (apos.endLine == cpos.line) = true := by rfl) (hs : starEach [e] X.env = (false, eval e X.env) :: starEach [] X.env := by rfl) (hplain : (backTo cpos (starEach [] X.env)).any (·.1) = false := by rfl) :
    PE X (.Call (.Attribute o name apos) [e] [] cpos) (fun σ H Q => to σ H fun x H1 => (∃ a xs, x = .ref a ∧ TupQ X.K H1 a xs) ∧ t σ H1 fun ys H2 => r x ys H2 Q) := by
  refine ⟨fun pins s σ H Q I h => ?_⟩
  refine wpAny_Call_method_late hbase hfew hline rfl (thn (ho.run pins s σ H _ I h) fun v s1 ⟨x, H1, I1, r1, ⟨a, xs, ex, hT⟩, q1⟩ => ?_)
  subst ex
  cases r1
  have look : ∃ ob, s1.heap.get? a = some ob ∧ ob.dict = none := by
    rcases hT with ⟨o, g, d⟩ | ⟨o, its, n, g, c, d, _⟩
    · exact ⟨o, (I1.hok a _ g).1, d⟩
    · exact ⟨o, I1.kIn a o g, d⟩
  obtain ⟨its, _, ht, _⟩ := I1.tuple hT.sq
  refine ⟨"tuple", id, PySem.F.plainAttrs_tuple, slot, hty, ht.typeIs, fun b e => by cases e; exact look, ?_⟩
  have q2 := ha.run cpos pins s1 σ H1 _ I1 q1
  rw [hs] at q2 ⊢
  exact Calls.callWith_builtin (by show (false || (backTo cpos (starEach [] X.env)).any (·.1)) = false; rw [hplain] <;> rfl) (Calls.evalArgs_plain (thn q2 fun us s2 ⟨ys, H2, I2, r2, q3⟩ => hm pins s2 σ H2 (.ref a) ys _ us Q I2 rfl r2 q3))
end
end Pf
set_option Elab.async false
set_option linter.all false
set_option maxRecDepth 100000
set_option maxHeartbeats 4000000
/-! Pf: a pure layer over the hand layer. Data are PyData; a def's slots hold data or things of its own. -/
namespace Pf
open PySem PySem.Spec PyProof.Rows L2

abbrev D := PyData

theorem sq_mono {K : Fg} {G H : Hp} (s : Same G H) {a : Addr} {xs : List V} (h : SqL K G a xs) : SqL K H a xs := s.seq h
theorem st_mono {K : Fg} {G H : Hp} (s : Same G H) {a : Addr} {xs : List V} (h : SqT K G a xs) : SqT K H a xs := by
  rcases h with (h | ⟨o, h⟩) | h
  · exact .inl (.inl (s _ _ h))
  · exact .inl (.inr ⟨o, s _ _ h⟩)
  · exact .inr h
theorem rd_mono {G H : Hp} (s : Same G H) {a : Addr} {o : HO} (h : Rd G a o) : Rd H a o := by
  rcases h with h | ⟨u, h⟩
  · exact .inl (s _ _ h)
  · exact .inr ⟨u, s _ _ h⟩
mutual
/-- a value stands for data in a heap: lists are tracked (or the script), tuples may be of the written part -/
inductive Rp (K : Fg) (G : Hp) : V → D → Prop
  | non : Rp K G .non .none
  | bl (b : Bool) : Rp K G (.bl b) (.bool b)
  | int (i : Int) : Rp K G (.int i) (.int i)
  | str (x : Str) : Rp K G (.str x) (.str x)
  | lst {a : Addr} {vs : List V} {xs : List D} : Rd G a (.lst vs) → RpAll K G vs xs → Rp K G (.ref a) (.list xs)
  | tup {a : Addr} {vs : List V} {xs : List D} : TupQ K G a vs → RpAll K G vs xs → Rp K G (.ref a) (.tuple xs)
inductive RpAll (K : Fg) (G : Hp) : List V → List D → Prop
  | nil : RpAll K G [] []
  | cons {v : V} {vs : List V} {x : D} {xs : List D} : Rp K G v x → RpAll K G vs xs → RpAll K G (v :: vs) (x :: xs)
end
mutual
theorem rp_dp {K : Fg} {G : Hp} : ∀ (x : D) {v : V}, Rp K G v x → Dp K G v x
  | .none, _, .non => .non
  | .bool b, _, .bl _ => .bl b
  | .int i, _, .int _ => .int i
  | .str z, _, .str _ => .str z
  | .list ds, _, .lst h t => .lst (.inl h) (rps_dp ds t)
  | .tuple ds, _, .tup h t => .tup h.sq (rps_dp ds t)
  | .dict kvs, _, h => nomatch h
theorem rps_dp {K : Fg} {G : Hp} : ∀ (xs : List D) {vs : List V}, RpAll K G vs xs → DpAll K G vs xs
  | [], _, .nil => .nil
  | x :: xs, _, .cons h t => .cons (rp_dp x h) (rps_dp xs t)
end
mutual
theorem rp_mono {K : Fg} {G H : Hp} (s : Same G H) : ∀ (x : D) {v : V}, Rp K G v x → Rp K H v x
  | .none, _, .non => .non
  | .bool b, _, .bl _ => .bl b
  | .int i, _, .int _ => .int i
  | .str z, _, .str _ => .str z
  | .list ds, _, .lst h t => .lst (rd_mono s h) (rps_mono s ds t)
  | .tuple ds, _, .tup h t => .tup (tq_mono s h) (rps_mono s ds t)
  | .dict kvs, _, h => nomatch h
theorem rps_mono {K : Fg} {G H : Hp} (s : Same G H) : ∀ (xs : List D) {vs : List V}, RpAll K G vs xs → RpAll K H vs xs
  | [], _, .nil => .nil
  | x :: xs, _, .cons h t => .cons (rp_mono s x h) (rps_mono s xs t)
end
theorem rps_len {K : Fg} {G : Hp} : ∀ {xs : List D} {vs : List V}, RpAll K G vs xs → vs.length = xs.length
  | [], _, .nil => rfl
  | _ :: xs, _, .cons _ t => by rw [List.length_cons, List.length_cons, rps_len t]
theorem rps_get {K : Fg} {G : Hp} : ∀ {xs : List D} {vs : List V} {i : Nat} {x : D}, RpAll K G vs xs → xs[i]? = some x → ∃ v, vs[i]? = some v ∧ Rp K G v x
  | [], _, _, _, .nil, e => by simp at e
  | y :: xs, _, 0, x, .cons h t, e => by
    simp at e
    subst e
    exact ⟨_, rfl, h⟩
  | y :: xs, _, i + 1, x, .cons h t, e => by
    obtain ⟨v, h1, h2⟩ := rps_get (i := i) t (by simpa using e)
    exact ⟨v, by simpa using h1, h2⟩
theorem rps_getV {K : Fg} {G : Hp} : ∀ {xs : List D} {vs : List V} {i : Nat} {v : V}, RpAll K G vs xs → vs[i]? = some v → ∃ x, xs[i]? = some x ∧ Rp K G v x
  | [], _, _, _, .nil, e => by simp at e
  | y :: xs, _, 0, x, .cons h t, e => by
    simp at e
    subst e
    exact ⟨_, rfl, h⟩
  | y :: xs, _, i + 1, x, .cons h t, e => by
    obtain ⟨v, h1, h2⟩ := rps_getV (i := i) t (by simpa using e)
    exact ⟨v, by simpa using h1, h2⟩
theorem rps_append {K : Fg} {G : Hp} : ∀ {xs ys : List D} {vs ws : List V}, RpAll K G vs xs → RpAll K G ws ys → RpAll K G (vs ++ ws) (xs ++ ys)
  | [], _, _, _, .nil, h => h
  | _ :: _, _, _, _, .cons h t, k => .cons h (rps_append t k)
theorem rps_set {K : Fg} {G : Hp} {x : D} {v : V} (hx : Rp K G v x) : ∀ {xs : List D} {vs : List V} (i : Nat), RpAll K G vs xs → RpAll K G (vs.set i v) (xs.set i x)
  | [], _, _, .nil => .nil
  | _ :: _, _, 0, .cons _ t => .cons hx t
  | _ :: _, _, i + 1, .cons h t => .cons h (rps_set hx i t)
theorem rps_take {K : Fg} {G : Hp} : ∀ {xs : List D} {vs : List V} (i : Nat), RpAll K G vs xs → RpAll K G (vs.take i) (xs.take i)
  | [], _, i, .nil => by simpa using RpAll.nil
  | _ :: _, _, 0, .cons _ t => .nil
  | _ :: _, _, i + 1, .cons h t => .cons h (rps_take i t)
theorem rps_drop {K : Fg} {G : Hp} : ∀ {xs : List D} {vs : List V} (i : Nat), RpAll K G vs xs → RpAll K G (vs.drop i) (xs.drop i)
  | [], _, i, .nil => by simpa using RpAll.nil
  | _ :: _, _, 0, .cons h t => .cons h t
  | _ :: _, _, i + 1, .cons h t => rps_drop i t
theorem rps_rep {K : Fg} {G : Hp} {x : D} {v : V} (h : Rp K G v x) : ∀ n : Nat, RpAll K G (List.replicate n v) (List.replicate n x)
  | 0 => .nil
  | n + 1 => .cons h (rps_rep h n)
theorem rps_erase {K : Fg} {G : Hp} : ∀ {xs : List D} {vs : List V} (i : Nat), RpAll K G vs xs → RpAll K G (vs.eraseIdx i) (xs.eraseIdx i)
  | [], _, _, .nil => .nil
  | _ :: _, _, 0, .cons _ t => t
  | _ :: _, _, i + 1, .cons h t => .cons h (rps_erase i t)
theorem rps_rev {K : Fg} {G : Hp} {xs : List D} {vs : List V} (h : RpAll K G vs xs) : RpAll K G vs.reverse xs.reverse := by
  induction xs generalizing vs with
  | nil => cases h; exact .nil
  | cons x xs ih =>
    cases h with
    | cons h t =>
      rw [List.reverse_cons, List.reverse_cons]
      exact rps_append (ih t) (.cons h .nil)
/-- a list of ints, of texts, of truth values -/
theorem rps_ints {K : Fg} {G : Hp} : ∀ {ns : List Int} {vs : List V}, RpAll K G vs (ns.map PyData.int) → vs = ns.map V.int
  | [], _, .nil => rfl
  | n :: ns, _, .cons h t => by
    cases h
    rw [rps_ints t]
    rfl
theorem ints_rps {K : Fg} {G : Hp} : ∀ ns : List Int, RpAll K G (ns.map V.int) (ns.map PyData.int)
  | [] => .nil
  | n :: ns => .cons (.int n) (ints_rps ns)
theorem rps_strs {K : Fg} {G : Hp} : ∀ {ns : List Str} {vs : List V}, RpAll K G vs (ns.map PyData.str) → vs = ns.map V.str
  | [], _, .nil => rfl
  | n :: ns, _, .cons h t => by
    cases h
    rw [rps_strs t]
    rfl
theorem rps_bools {K : Fg} {G : Hp} : ∀ {ns : List Bool} {vs : List V}, RpAll K G vs (ns.map PyData.bool) → vs = ns.map V.bl
  | [], _, .nil => rfl
  | n :: ns, _, .cons h t => by
    cases h
    rw [rps_bools t]
    rfl

/-! ### what a slot holds -/
/-- a thing of the def's own that is told by a predicate: a heap, a value, the addresses that it takes -/
structure Res where
  ok : Hp → V → List Addr → Prop
  loc : ∀ {H H' : Hp} {v : V} {fp : List Addr}, ok H v fp → (∀ a ∈ fp, H' a = H a) → ok H' v fp
  dom : ∀ {H : Hp} {v : V} {fp : List Addr}, ok H v fp → ∀ a ∈ fp, H a ≠ none
  nd : ∀ {H : Hp} {v : V} {fp : List Addr}, ok H v fp → fp.Nodup

inductive O where
  /-- data: nobody changes it any more -/
  | d (x : D)
  /-- a list of the def's own, its items data -/
  | own (xs : List D)
  /-- a dict of the def's own, its values data -/
  | dct (kvs : List (Key × D))
  /-- anything else of the def's own -/
  | res (r : Res)

abbrev Env := List (Option O)

inductive DpKV (K : Fg) (G : Hp) : List (Key × V) → List (Key × D) → Prop
  | nil : DpKV K G [] []
  | cons {k : Key} {v : V} {x : D} {vs : List (Key × V)} {xs : List (Key × D)} : Rp K G v x → DpKV K G vs xs → DpKV K G ((k, v) :: vs) ((k, x) :: xs)
theorem dkv_mono {K : Fg} {G H : Hp} (s : Same G H) : ∀ {xs : List (Key × D)} {vs : List (Key × V)}, DpKV K G vs xs → DpKV K H vs xs
  | _, _, .nil => .nil
  | _, _, .cons h t => .cons (rp_mono s _ h) (dkv_mono s t)

def RepO (K : Fg) (G H : Hp) : O → V → List Addr → Prop
  | .d x, v, fp => Rp K G v x ∧ fp = []
  | .own xs, v, fp => ∃ p vs, v = .ref p ∧ fp = [p] ∧ H p = some (.lst vs) ∧ RpAll K G vs xs
  | .dct kvs, v, fp => ∃ p vs, v = .ref p ∧ fp = [p] ∧ H p = some (.dK vs) ∧ DpKV K G vs kvs
  | .res r, v, fp => r.ok H v fp
theorem RepO.mono {K : Fg} {G G' H H' : Hp} {o : O} {v : V} {fp : List Addr} (h : RepO K G H o v fp) (s : Same G G') (e : ∀ a ∈ fp, H' a = H a) : RepO K G' H' o v fp := by
  cases o with
  | d x => exact ⟨rp_mono s x h.1, h.2⟩
  | own xs =>
    obtain ⟨p, vs, h1, h2, h3, h4⟩ := h
    subst h2
    exact ⟨p, vs, h1, rfl, by rw [e p (by simp), h3], rps_mono s xs h4⟩
  | dct kvs =>
    obtain ⟨p, vs, h1, h2, h3, h4⟩ := h
    subst h2
    exact ⟨p, vs, h1, rfl, by rw [e p (by simp), h3], dkv_mono s h4⟩
  | res r => exact r.loc h e
theorem RepO.dom {K : Fg} {G H : Hp} {o : O} {v : V} {fp : List Addr} (h : RepO K G H o v fp) : ∀ a ∈ fp, H a ≠ none := by
  cases o with
  | d x => rw [h.2]; simp
  | own xs =>
    obtain ⟨p, vs, h1, h2, h3, h4⟩ := h
    subst h2
    simp [h3]
  | dct kvs =>
    obtain ⟨p, vs, h1, h2, h3, h4⟩ := h
    subst h2
    simp [h3]
  | res r => exact r.dom h
theorem RepO.nd {K : Fg} {G H : Hp} {o : O} {v : V} {fp : List Addr} (h : RepO K G H o v fp) : fp.Nodup := by
  cases o with
  | d x => rw [h.2]; simp
  | own xs =>
    obtain ⟨p, vs, h1, h2, h3, h4⟩ := h
    subst h2
    simp
  | dct kvs =>
    obtain ⟨p, vs, h1, h2, h3, h4⟩ := h
    subst h2
    simp
  | res r => exact r.nd h

inductive Slots (K : Fg) (G H : Hp) : L2.St → Env → List Addr → Prop
  | nil : Slots K G H [] [] []
  | non {x : Option V} {σ : L2.St} {env : Env} {fp : List Addr} : Slots K G H σ env fp → Slots K G H (x :: σ) (none :: env) fp
  | one {v : V} {o : O} {σ : L2.St} {env : Env} {fp1 fp : List Addr} : RepO K G H o v fp1 → Slots K G H σ env fp → Slots K G H (some v :: σ) (some o :: env) (fp1 ++ fp)
theorem Slots.mono {K : Fg} {G G' H H' : Hp} (s : Same G G') : ∀ {σ : L2.St} {env : Env} {fp : List Addr}, Slots K G H σ env fp → (∀ a ∈ fp, H' a = H a) → Slots K G' H' σ env fp
  | _, _, _, .nil, _ => .nil
  | _, _, _, .non h, e => .non (Slots.mono s h e)
  | _, _, _, .one h t, e => .one (h.mono s fun a m => e a (List.mem_append_left _ m)) (Slots.mono s t fun a m => e a (List.mem_append_right _ m))
theorem Slots.dom {K : Fg} {G H : Hp} : ∀ {σ : L2.St} {env : Env} {fp : List Addr}, Slots K G H σ env fp → ∀ a ∈ fp, H a ≠ none
  | _, _, _, .nil => by simp
  | _, _, _, .non h => Slots.dom h
  | _, _, _, .one h t => fun a m => by
    rcases List.mem_append.mp m with m | m
    · exact h.dom a m
    · exact Slots.dom t a m
theorem Slots.len {K : Fg} {G H : Hp} : ∀ {σ : L2.St} {env : Env} {fp : List Addr}, Slots K G H σ env fp → σ.length = env.length
  | _, _, _, .nil => rfl
  | _, _, _, .non h => by rw [List.length_cons, List.length_cons, Slots.len h]
  | _, _, _, .one _ h => by rw [List.length_cons, List.length_cons, Slots.len h]

/-- one slot alone -/
def Slot1 (K : Fg) (G H : Hp) (x : Option V) (oo : Option O) (fp : List Addr) : Prop := match oo with
  | none => fp = []
  | some o => ∃ v, x = some v ∧ RepO K G H o v fp
theorem Slots.mk1 {K : Fg} {G H : Hp} {x : Option V} {oo : Option O} {fp1 fp : List Addr} {σ : L2.St} {env : Env} (h : Slot1 K G H x oo fp1) (t : Slots K G H σ env fp) : Slots K G H (x :: σ) (oo :: env) (fp1 ++ fp) := by
  cases oo with
  | none =>
    have e : fp1 = [] := h
    subst e
    exact .non t
  | some o =>
    obtain ⟨v, rfl, h⟩ := h
    exact .one h t
theorem Slots.split {K : Fg} {G H : Hp} : ∀ {σ : L2.St} {env : Env} {fp : List Addr} {i : Nat} {oo : Option O}, Slots K G H σ env fp → env[i]? = some oo →
    ∃ fpA fp1 fpB x, fp = fpA ++ (fp1 ++ fpB) ∧ σ[i]? = some x ∧ Slot1 K G H x oo fp1 ∧
      ∀ G' H' x' oo' fp1', Same G G' → (∀ a ∈ fpA ++ fpB, H' a = H a) → Slot1 K G' H' x' oo' fp1' → Slots K G' H' (σ.set i x') (env.set i oo') (fpA ++ (fp1' ++ fpB))
  | _, _, _, _, _, .nil, e => by simp at e
  | _, _, _, 0, oo, .non (fp := fp) h, e => by
    simp at e
    subst e
    exact ⟨[], [], fp, _, rfl, rfl, rfl, fun G' H' x' oo' fp1' s eq h1 => show Slots K G' H' _ _ (fp1' ++ fp) from Slots.mk1 h1 (h.mono s eq)⟩
  | _, _, _, 0, oo, .one (fp1 := fp1) (fp := fp) h1 h, e => by
    simp at e
    subst e
    exact ⟨[], fp1, fp, _, rfl, rfl, ⟨_, rfl, h1⟩, fun G' H' x' oo' fp1' s eq h1 => show Slots K G' H' _ _ (fp1' ++ fp) from Slots.mk1 h1 (h.mono s eq)⟩
  | _, _, _, i + 1, oo, .non (fp := fp) h, e => by
    obtain ⟨fpA, fp1, fpB, x, e1, e2, e3, f⟩ := Slots.split (i := i) h (by simpa using e)
    exact ⟨fpA, fp1, fpB, x, e1, by simpa using e2, e3, fun G' H' x' oo' fp1' s eq h1 => .non (f G' H' x' oo' fp1' s eq h1)⟩
  | _, _, _, i + 1, oo, .one (fp1 := fp0) (fp := fp) h0 h, e => by
    obtain ⟨fpA, fp1, fpB, x, e1, e2, e3, f⟩ := Slots.split (i := i) h (by simpa using e)
    refine ⟨fp0 ++ fpA, fp1, fpB, x, by rw [e1, List.append_assoc], by simpa using e2, e3, fun G' H' x' oo' fp1' s eq h1 => ?_⟩
    rw [List.append_assoc]
    refine .one (h0.mono s fun a m => eq a ?_) (f G' H' x' oo' fp1' s (fun a m => eq a ?_) h1)
    · simp [m]
    · rw [List.append_assoc]
      exact List.mem_append_right _ m

/-- G: what stands for ever; F: what others hold; fp: what the slots take -/
structure Hps (G F H : Hp) (fp : List Addr) : Prop where
  gh : Same G H
  fh : Same F H
  gf : ∀ a, G a ≠ none → F a = none
  nd : fp.Nodup
  pg : ∀ a ∈ fp, G a = none
  pf : ∀ a ∈ fp, F a = none
def Rep (K : Fg) (G F H : Hp) (σ : L2.St) (env : Env) : Prop := ∃ fp, Slots K G H σ env fp ∧ Hps G F H fp
/-- .. and besides the slots a value of its own -/
def RepV (K : Fg) (G F H : Hp) (σ : L2.St) (env : Env) (v : V) (o : O) : Prop := ∃ fp fpv, Slots K G H σ env fp ∧ RepO K G H o v fpv ∧ Hps G F H (fpv ++ fp)

theorem Hps.sub {G F H : Hp} {fp fp' : List Addr} (h : Hps G F H fp) (s : fp'.Sublist fp) : Hps G F H fp' :=
  ⟨h.gh, h.fh, h.gf, h.nd.sublist s, fun a m => h.pg a (s.subset m), fun a m => h.pf a (s.subset m)⟩
theorem Hps.perm {G F H : Hp} {fp fp' : List Addr} (h : Hps G F H fp) (s : fp.Perm fp') : Hps G F H fp' :=
  ⟨h.gh, h.fh, h.gf, s.nodup_iff.mp h.nd, fun a m => h.pg a (s.mem_iff.mpr m), fun a m => h.pf a (s.mem_iff.mpr m)⟩
theorem Rep.len {K : Fg} {G F H : Hp} {σ : L2.St} {env : Env} (h : Rep K G F H σ env) : σ.length = env.length := let ⟨_, a, _⟩ := h; a.len
theorem set_self {α : Type} : ∀ {l : List α} {i : Nat} {x : α}, l[i]? = some x → l.set i x = l
  | [], _, _, h => rfl
  | y :: l, 0, x, h => by
    simp at h
    rw [h]
    rfl
  | y :: l, i + 1, x, h => by
    rw [List.set_cons_succ, set_self (by simpa using h)]
theorem none_of {H : Hp} {a : Addr} (h : ∀ o, H a ≠ some o) : H a = none := by
  cases e : H a with
  | none => rfl
  | some o => exact absurd e (h o)
theorem same_none {G H : Hp} (s : Same G H) {a : Addr} (h : H a = none) : G a = none := s.free h
end Pf
set_option Elab.async false
set_option linter.all false
set_option maxRecDepth 100000
set_option maxHeartbeats 4000000
/-! Pf: readings over data, and what they say of the hand layer's readings. -/
namespace Pf
open PySem PySem.Spec PyProof.Rows L2

/-- an operand: data, or a slot that is looked at when the operation comes -/
inductive Arg where
  | val (x : D)
  | bor (i : Nat)
abbrev RV := Env → (D → Env → Prop) → Prop
abbrev RE := Env → (O → Env → Prop) → Prop
abbrev RT := Env → (Bool → Env → Prop) → Prop
abbrev RP := Env → (Arg → Env → Prop) → Prop
abbrev RA := Env → (List Arg → Env → Prop) → Prop
structure End where
  nx : Env → Prop
  rt : O → Env → Prop
  bk : Env → Prop
  ct : Env → Prop
abbrev RS := End → Env → Prop
def MonoK {α : Type} (r : Env → (α → Env → Prop) → Prop) : Prop := ∀ (env : Env) (Q Q' : α → Env → Prop), (∀ x e, Q x e → Q' x e) → r env Q → r env Q'
def End.le (A B : End) : Prop := (∀ e, A.nx e → B.nx e) ∧ (∀ o e, A.rt o e → B.rt o e) ∧ (∀ e, A.bk e → B.bk e) ∧ (∀ e, A.ct e → B.ct e)
def MonoS (r : RS) : Prop := ∀ (A B : End) (env : Env), A.le B → r A env → r B env
theorem End.le.refl (A : End) : A.le A := ⟨fun _ h => h, fun _ _ h => h, fun _ h => h, fun _ h => h⟩

/-- what an operand stands for -/
def ArgRep (K : Fg) (G : Hp) (σ : L2.St) (v : V) : Arg → Prop
  | .val x => Rp K G v x
  | .bor i => σ[i]? = some (some v)
inductive ArgsRep (K : Fg) (G : Hp) (σ : L2.St) : List V → List Arg → Prop
  | nil : ArgsRep K G σ [] []
  | cons {v : V} {a : Arg} {vs : List V} {as : List Arg} : ArgRep K G σ v a → ArgsRep K G σ vs as → ArgsRep K G σ (v :: vs) (a :: as)
theorem ArgRep.mono {K : Fg} {G G' : Hp} {σ : L2.St} {v : V} {a : Arg} (s : Same G G') (h : ArgRep K G σ v a) : ArgRep K G' σ v a := by
  cases a with
  | val x => exact rp_mono s x h
  | bor i => exact h
theorem ArgsRep.mono {K : Fg} {G G' : Hp} {σ : L2.St} (s : Same G G') : ∀ {vs : List V} {as : List Arg}, ArgsRep K G σ vs as → ArgsRep K G' σ vs as
  | _, _, .nil => .nil
  | _, _, .cons h t => .cons (h.mono s) (ArgsRep.mono s t)

def liftV (K : Fg) (r : RV) : TE := fun σ H Q => ∃ env G F, Rep K G F H σ env ∧ r env fun x env' => ∀ v G' H', Same G G' → Rep K G' F H' σ env' → Rp K G' v x → Q v H'
def liftO (K : Fg) (r : RE) : TE := fun σ H Q => ∃ env G F, Rep K G F H σ env ∧ r env fun o env' => ∀ v G' H', Same G G' → RepV K G' F H' σ env' v o → Q v H'
def liftP (K : Fg) (r : RP) : TE := fun σ H Q => ∃ env G F, Rep K G F H σ env ∧ r env fun a env' => ∀ v G' H', Same G G' → Rep K G' F H' σ env' → ArgRep K G' σ v a → Q v H'
def liftT (K : Fg) (r : RT) : TT := fun σ H Q => ∃ env G F, Rep K G F H σ env ∧ r env fun b env' => ∀ G' H', Same G G' → Rep K G' F H' σ env' → Q b H'
def liftA (K : Fg) (r : RA) : TA := fun σ H Q => ∃ env G F, Rep K G F H σ env ∧ r env fun as env' => ∀ vs G' H', Same G G' → Rep K G' F H' σ env' → ArgsRep K G' σ vs as → Q vs H'
def KeepS (kp : List Nat) (σ σ' : L2.St) : Prop := ∀ j ∈ kp, σ'[j]? = σ[j]?
def liftEnd (K : Fg) (kp : List Nat) (G F : Hp) (σ : L2.St) (E : L2.Ends) : End where
  nx := fun env' => ∀ σ' G' H', Same G G' → KeepS kp σ σ' → Rep K G' F H' σ' env' → E.nx σ' H'
  rt := fun o env' => ∀ v σ' G' H', Same G G' → KeepS kp σ σ' → RepV K G' F H' σ' env' v o → E.rt v H'
  bk := fun env' => ∀ σ' G' H', Same G G' → KeepS kp σ σ' → Rep K G' F H' σ' env' → E.bk σ' H'
  ct := fun env' => ∀ σ' G' H', Same G G' → KeepS kp σ σ' → Rep K G' F H' σ' env' → E.ct σ' H'
def liftS (K : Fg) (kp : List Nat) (r : RS) : TS := fun E σ H => ∃ env G F, Rep K G F H σ env ∧ r (liftEnd K kp G F σ E) env

section
variable {X : Cx}
theorem pe_imp {e : Expr} {t t' : TE} (h : PE X e t) (f : ∀ σ H Q, t' σ H Q → t σ H Q) : PE X e t' := ⟨fun pins s σ H Q I q => h.run pins s σ H Q I (f σ H Q q)⟩
theorem pt_imp {e : Expr} {t t' : TT} (h : PT X e t) (f : ∀ σ H Q, t' σ H Q → t σ H Q) : PT X e t' := ⟨fun pins s σ H Q I q => h.run pins s σ H Q I (f σ H Q q)⟩
theorem pw_imp {e : Expr} {t t' : TT} (h : L2.PW X e t) (f : ∀ σ H Q, t' σ H Q → t σ H Q) : L2.PW X e t' := ⟨fun w pins s σ H Q I q => h.run w pins s σ H Q I (f σ H Q q)⟩
theorem pa_imp {e : List Expr} {t t' : TA} (h : PA X e t) (f : ∀ σ H Q, t' σ H Q → t σ H Q) : PA X e t' := ⟨fun pos pins s σ H Q I q => h.run pos pins s σ H Q I (f σ H Q q)⟩
theorem ps_imp {e : Stmt} {t t' : TS} (h : PS X e t) (f : ∀ E σ H, t' E σ H → t E σ H) : PS X e t' := ⟨fun pins s σ H E I q => h.run pins s σ H E I (f E σ H q)⟩
theorem pss_imp {e : List Stmt} {t t' : TS} (h : PSs X e t) (f : ∀ E σ H, t' E σ H → t E σ H) : PSs X e t' := ⟨fun pins s σ H E I q => h.run pins s σ H E I (f E σ H q)⟩
end

/-- an expression's data; its thing; an operand; a test; arguments; a statement; a block -/
structure QV (X : Cx) (e : Expr) (r : RV) : Prop where
  mono : MonoK r
  run : PE X e (liftV X.K r)
structure QE (X : Cx) (e : Expr) (r : RE) : Prop where
  mono : MonoK r
  run : PE X e (liftO X.K r)
structure QP (X : Cx) (e : Expr) (r : RP) : Prop where
  mono : MonoK r
  run : PE X e (liftP X.K r)
structure QT (X : Cx) (e : Expr) (r : RT) : Prop where
  mono : MonoK r
  run : PT X e (liftT X.K r)
structure QW (X : Cx) (e : Expr) (r : RT) : Prop where
  mono : MonoK r
  run : L2.PW X e (liftT X.K r)
structure QA (X : Cx) (es : List Expr) (r : RA) : Prop where
  mono : MonoK r
  run : PA X es (liftA X.K r)
structure QS (X : Cx) (kp : List Nat) (st : Stmt) (r : RS) : Prop where
  mono : MonoS r
  run : PS X st (liftS X.K kp r)
structure QSs (X : Cx) (kp : List Nat) (st : List Stmt) (r : RS) : Prop where
  mono : MonoS r
  run : PSs X st (liftS X.K kp r)

section
variable {K : Fg} {G F H : Hp} {σ : L2.St} {env : Env}
theorem liftV_of {r : RV} {Q : VK} {Q0 : D → Env → Prop} (m : MonoK r) (rep : Rep K G F H σ env) (h : r env Q0)
    (f : ∀ x env' v G' H', Q0 x env' → Same G G' → Rep K G' F H' σ env' → Rp K G' v x → Q v H') : liftV K r σ H Q := ⟨env, G, F, rep, m _ _ _ (fun x e q v G' H' s r d => f x e v G' H' q s r d) h⟩
theorem liftO_of {r : RE} {Q : VK} {Q0 : O → Env → Prop} (m : MonoK r) (rep : Rep K G F H σ env) (h : r env Q0)
    (f : ∀ x env' v G' H', Q0 x env' → Same G G' → RepV K G' F H' σ env' v x → Q v H') : liftO K r σ H Q := ⟨env, G, F, rep, m _ _ _ (fun x e q v G' H' s d => f x e v G' H' q s d) h⟩
theorem liftP_of {r : RP} {Q : VK} {Q0 : Arg → Env → Prop} (m : MonoK r) (rep : Rep K G F H σ env) (h : r env Q0)
    (f : ∀ x env' v G' H', Q0 x env' → Same G G' → Rep K G' F H' σ env' → ArgRep K G' σ v x → Q v H') : liftP K r σ H Q := ⟨env, G, F, rep, m _ _ _ (fun x e q v G' H' s r d => f x e v G' H' q s r d) h⟩
theorem liftT_of {r : RT} {Q : Bool → Hp → Prop} {Q0 : Bool → Env → Prop} (m : MonoK r) (rep : Rep K G F H σ env) (h : r env Q0)
    (f : ∀ x env' G' H', Q0 x env' → Same G G' → Rep K G' F H' σ env' → Q x H') : liftT K r σ H Q := ⟨env, G, F, rep, m _ _ _ (fun x e q G' H' s r => f x e G' H' q s r) h⟩
theorem liftA_of {r : RA} {Q : List V → Hp → Prop} {Q0 : List Arg → Env → Prop} (m : MonoK r) (rep : Rep K G F H σ env) (h : r env Q0)
    (f : ∀ x env' v G' H', Q0 x env' → Same G G' → Rep K G' F H' σ env' → ArgsRep K G' σ v x → Q v H') : liftA K r σ H Q := ⟨env, G, F, rep, m _ _ _ (fun x e q v G' H' s r d => f x e v G' H' q s r d) h⟩

/-! ### heaps that grow -/
theorem same_upd {H : Hp} {p : Addr} {o : HO} (h : H p = none) : Same H (upd H p o) := fun b x e => by
  rw [upd_ne (ne_of_none e h)]
  exact e
theorem same_upd2 {G H : Hp} {p : Addr} {o : HO} (h : Same G H) : Same (upd G p o) (upd H p o) := fun b x e => by
  unfold upd at *
  split
  · rename_i e1
    rw [if_pos e1] at e
    exact e
  · rename_i e1
    rw [if_neg e1] at e
    exact h b x e
theorem same_updL {G H : Hp} {p : Addr} {o : HO} (h : Same G H) (hp : H p = some o) : Same (upd G p o) H := fun b x e => by
  unfold upd at e
  split at e
  · rename_i e1
    subst e1
    rw [hp]
    exact e
  · exact h b x e
theorem upd_none {H : Hp} {p a : Addr} {o : HO} (h : a ≠ p) (e : H a = none) : upd H p o a = none := by rw [upd_ne h, e]

/-- a new object among what stands for ever -/
theorem Rep.newG (r : Rep K G F H σ env) {p : Addr} {o : HO} (h : H p = none) : Rep K (upd G p o) F (upd H p o) σ env ∧ Same G (upd G p o) := by
  obtain ⟨fp, s, w⟩ := r
  have hG : G p = none := same_none w.gh h
  have hF : F p = none := same_none w.fh h
  have hp : ∀ a ∈ fp, a ≠ p := fun a m e => s.dom a m (by rw [e]; exact h)
  refine ⟨⟨fp, s.mono (same_upd hG) fun a m => upd_ne (hp a m), same_upd2 w.gh, ?_, ?_, w.nd, ?_, w.pf⟩, same_upd hG⟩
  · intro b x e
    rw [upd_ne (fun z => by rw [z, hF] at e; cases e)]
    exact w.fh b x e
  · intro a e
    by_cases z : a = p
    · rw [z]; exact hF
    · rw [upd_ne z] at e
      exact w.gf a e
  · intro a m
    rw [upd_ne (hp a m)]
    exact w.pg a m
/-- a new object that is the expression's own -/
theorem Rep.newO (r : Rep K G F H σ env) {p : Addr} {o : HO} {t : O} (h : H p = none) (hr : RepO K G (upd H p o) t (.ref p) [p]) : RepV K G F (upd H p o) σ env (.ref p) t := by
  obtain ⟨fp, s, w⟩ := r
  have hG : G p = none := same_none w.gh h
  have hF : F p = none := same_none w.fh h
  have hp : ∀ a ∈ fp, a ≠ p := fun a m e => s.dom a m (by rw [e]; exact h)
  refine ⟨fp, [p], s.mono (fun _ _ e => e) fun a m => upd_ne (hp a m), hr, fun b x e => ?_, fun b x e => ?_, w.gf, ?_, ?_, ?_⟩
  · rw [upd_ne (fun z => by rw [z, hG] at e; cases e)]
    exact w.gh b x e
  · rw [upd_ne (fun z => by rw [z, hF] at e; cases e)]
    exact w.fh b x e
  · rw [List.singleton_append, List.nodup_cons]
    exact ⟨fun m => hp p m rfl, w.nd⟩
  · intro a m
    rcases List.mem_append.mp m with m | m
    · rw [List.mem_singleton.mp m]; exact hG
    · exact w.pg a m
  · intro a m
    rcases List.mem_append.mp m with m | m
    · rw [List.mem_singleton.mp m]; exact hF
    · exact w.pf a m
theorem RepV.of (r : Rep K G F H σ env) {v : V} {x : D} (h : Rp K G v x) : RepV K G F H σ env v (.d x) := by
  obtain ⟨fp, s, w⟩ := r
  exact ⟨fp, [], s, ⟨h, rfl⟩, w⟩
theorem RepV.rep {v : V} {o : O} (h : RepV K G F H σ env v o) : Rep K G F H σ env := by
  obtain ⟨fp, fpv, s, r, w⟩ := h
  exact ⟨fp, s, w.sub (List.sublist_append_right _ _)⟩
/-- what is one's own becomes data -/
theorem RepV.freeze {v : V} {xs : List D} (h : RepV K G F H σ env v (.own xs)) : ∃ G', Same G G' ∧ Rep K G' F H σ env ∧ Rp K G' v (.list xs) := by
  obtain ⟨fp, fpv, s, ⟨p, vs, rfl, rfl, hp, hd⟩, w⟩ := h
  have hG : G p = none := w.pg p (by simp)
  have hF : F p = none := w.pf p (by simp)
  have sG : Same G (upd G p (.lst vs)) := same_upd hG
  have nd := w.nd
  rw [List.singleton_append, List.nodup_cons] at nd
  refine ⟨upd G p (.lst vs), sG, ⟨fp, s.mono sG fun a m => rfl, same_updL w.gh hp, w.fh, ?_, nd.2, ?_, fun a m => w.pf a (List.mem_append_right _ m)⟩, .lst (.inl upd_same) (rps_mono sG xs hd)⟩
  · intro a e
    by_cases z : a = p
    · rw [z]; exact hF
    · rw [upd_ne z] at e
      exact w.gf a e
  · intro a m
    rw [upd_ne (fun z => nd.1 (by rw [← z]; exact m))]
    exact w.pg a (List.mem_append_right _ m)
end

def toD (o : O) (k : D → Prop) : Prop := match o with
  | .d x => k x
  | .own xs => k (.list xs)
  | _ => False
theorem toD.mono {o : O} {k k' : D → Prop} (f : ∀ x, k x → k' x) (h : toD o k) : toD o k' := by
  cases o with
  | d x => exact f _ h
  | own xs => exact f _ h
  | dct _ => exact h
  | res _ => exact h
theorem RepV.toD {K : Fg} {G F H : Hp} {σ : L2.St} {env : Env} {v : V} {o : O} {k : D → Prop} (h : RepV K G F H σ env v o) (t : Pf.toD o k) : ∃ x G', k x ∧ Same G G' ∧ Rep K G' F H σ env ∧ Rp K G' v x := by
  cases o with
  | d x =>
    obtain ⟨fp, fpv, s, ⟨hd, rfl⟩, w⟩ := h
    exact ⟨x, G, t, fun _ _ e => e, ⟨fp, s, w⟩, hd⟩
  | own xs =>
    obtain ⟨G', s, r, hd⟩ := h.freeze
    exact ⟨_, G', t, s, r, hd⟩
  | dct _ => exact t.elim
  | res _ => exact t.elim

def rD (r : RE) : RV := fun env Q => r env fun o e => toD o fun x => Q x e
def rO (r : RV) : RE := fun env Q => r env fun x e => Q (.d x) e
def rP (r : RV) : RP := fun env Q => r env fun x e => Q (.val x) e
section
variable {X : Cx} {e : Expr}
theorem QE.v {r : RE} (h : QE X e r) : QV X e (rD r) := by
  refine ⟨fun env Q Q' f q => h.mono _ _ _ (fun o e t => toD.mono (fun x => f x e) t) q, pe_imp h.run ?_⟩
  intro σ H Q ⟨env, G, F, rep, q⟩
  refine liftO_of h.mono rep q fun o env' v G' H' q1 s1 r1 => ?_
  obtain ⟨x, G2, q2, s2, r2, d2⟩ := r1.toD q1
  exact q2 v G2 H' (s1.trans s2) r2 d2
theorem QV.o {r : RV} (h : QV X e r) : QE X e (rO r) := by
  refine ⟨fun env Q Q' f q => h.mono _ _ _ (fun x e t => f _ _ t) q, pe_imp h.run ?_⟩
  intro σ H Q ⟨env, G, F, rep, q⟩
  exact liftV_of h.mono rep q fun x env' v G' H' q1 s1 r1 d1 => q1 v G' H' s1 (.of r1 d1)
theorem QV.p {r : RV} (h : QV X e r) : QP X e (rP r) := by
  refine ⟨fun env Q Q' f q => h.mono _ _ _ (fun x e t => f _ _ t) q, pe_imp h.run ?_⟩
  intro σ H Q ⟨env, G, F, rep, q⟩
  exact liftV_of h.mono rep q fun x env' v G' H' q1 s1 r1 d1 => q1 v G' H' s1 r1 d1
end
end Pf
set_option Elab.async false
set_option linter.all false
set_option maxRecDepth 100000
set_option maxHeartbeats 4000000
/-! Pf: names, constants, operators, comparisons, tests, subscripts. -/
namespace Pf
open PySem PySem.Spec PyProof.Rows L2

/-! ### names -/
section
variable {K : Fg} {G F H : Hp} {σ : L2.St} {env : Env} {i : Nat}
theorem Rep.get {o : O} (r : Rep K G F H σ env) (h : env[i]? = some (some o)) : ∃ v fp, σ[i]? = some (some v) ∧ RepO K G H o v fp := by
  obtain ⟨fp, s, w⟩ := r
  obtain ⟨fpA, fp1, fpB, x, e1, e2, ⟨v, rfl, h1⟩, f⟩ := s.split h
  exact ⟨v, fp1, e2, h1⟩
theorem Rep.getD {x : D} (r : Rep K G F H σ env) (h : env[i]? = some (some (.d x))) : ∃ v, σ[i]? = some (some v) ∧ Rp K G v x := by
  obtain ⟨v, fp, e, h1, _⟩ := r.get h
  exact ⟨v, e, h1⟩
theorem Rep.getO {xs : List D} (r : Rep K G F H σ env) (h : env[i]? = some (some (.own xs))) : ∃ p vs, σ[i]? = some (some (.ref p)) ∧ H p = some (.lst vs) ∧ RpAll K G vs xs := by
  obtain ⟨v, fp, e, p, vs, rfl, rfl, h1, h2⟩ := r.get h
  exact ⟨p, vs, e, h1, h2⟩
theorem Hps.drop {fpA fp1 fpB : List Addr} (w : Hps G F H (fpA ++ (fp1 ++ fpB))) : Hps G F H (fpA ++ fpB) :=
  w.sub (List.Sublist.append (List.Sublist.refl _) (List.sublist_append_right _ _))
/-- a slot's list becomes data -/
theorem Rep.freeze {xs : List D} (r : Rep K G F H σ env) (h : env[i]? = some (some (.own xs))) : ∃ G' v, Same G G' ∧ σ[i]? = some (some v) ∧ Rep K G' F H σ (env.set i (some (.d (.list xs)))) ∧ Rp K G' v (.list xs) := by
  obtain ⟨fp, s, w⟩ := r
  obtain ⟨fpA, fp1, fpB, x, e1, e2, ⟨v, rfl, p, vs, rfl, rfl, hp, hd⟩, f⟩ := s.split h
  subst e1
  have hm : p ∈ fpA ++ ([p] ++ fpB) := by simp
  have hG : G p = none := w.pg p hm
  have hF : F p = none := w.pf p hm
  have sG : Same G (upd G p (.lst vs)) := same_upd hG
  have hd2 : Rp K (upd G p (.lst vs)) (.ref p) (.list xs) := .lst (.inl upd_same) (rps_mono sG xs hd)
  have hs := f (upd G p (.lst vs)) H (some (.ref p)) (some (.d (.list xs))) [] sG (fun _ _ => rfl) ⟨_, rfl, hd2, rfl⟩
  rw [set_self e2] at hs
  have w2 := w.drop
  have hn : ∀ a ∈ fpA ++ fpB, a ≠ p := by
    intro a m e
    subst e
    have nd := w.nd
    rw [List.nodup_append] at nd
    rcases List.mem_append.mp m with m | m
    · exact nd.2.2 a m a (by simp) rfl
    · have := nd.2.1
      rw [List.singleton_append, List.nodup_cons] at this
      exact this.1 m
  refine ⟨upd G p (.lst vs), .ref p, sG, e2, ⟨_, hs, same_updL w.gh hp, w.fh, fun a e => ?_, w2.nd, fun a m => ?_, w2.pf⟩, hd2⟩
  · by_cases z : a = p
    · rw [z]; exact hF
    · rw [upd_ne z] at e
      exact w.gf a e
  · rw [upd_ne (hn a m)]
    exact w2.pg a m
end

def rVar (i : Nat) : RV := fun env Q => match env[i]? with
  | some (some (.d x)) => Q x env
  | some (some (.own xs)) => Q (.list xs) (env.set i (some (.d (.list xs))))
  | _ => False
def rN (i : Nat) : RP := fun env Q => match env[i]? with
  | some (some (.d x)) => Q (.val x) env
  | some (some _) => Q (.bor i) env
  | _ => False
def rC (x : D) : RV := fun env Q => Q x env
section
variable {X : Cx}
theorem rVar_mono {i : Nat} : MonoK (rVar i) := by
  intro env Q Q' f h
  unfold rVar at *
  split at h
  · exact f _ _ h
  · exact f _ _ h
  · exact h.elim
theorem rN_mono {i : Nat} : MonoK (rN i) := by
  intro env Q Q' f h
  unfold rN at *
  split at h
  · exact f _ _ h
  · exact f _ _ h
  · exact h.elim
theorem qv_var (i : Nat) {x : Str} {pos : Pos} (hN : X.N[i]? = some x := by rfl) (hv : Vis X.env.scope x := by first | exact Or.inl rfl | exact Or.inr (Or.inl rfl) | exact Or.inr (Or.inr rfl)) (hd : (x == ("__debug__" : Str)) = false := by decide)
    (hcd : (x == ("__classdict__" : Str)) = false := by decide) : QV X (.Name x pos) (rVar i) := by
  refine ⟨rVar_mono, pe_imp (pe_var hN hv hd hcd) ?_⟩
  intro σ H Q ⟨env, G, F, rep, h⟩
  unfold rVar at h
  split at h
  · rename_i y e
    obtain ⟨v, e2, d⟩ := rep.getD e
    exact ⟨v, e2, h v G H (fun _ _ z => z) rep d⟩
  · rename_i y e
    obtain ⟨G', v, s, e2, r, d⟩ := rep.freeze e
    exact ⟨v, e2, h v G' H s r d⟩
  · exact h.elim
theorem qp_var (i : Nat) {x : Str} {pos : Pos} (hN : X.N[i]? = some x := by rfl) (hv : Vis X.env.scope x := by first | exact Or.inl rfl | exact Or.inr (Or.inl rfl) | exact Or.inr (Or.inr rfl)) (hd : (x == ("__debug__" : Str)) = false := by decide)
    (hcd : (x == ("__classdict__" : Str)) = false := by decide) : QP X (.Name x pos) (rN i) := by
  refine ⟨rN_mono, pe_imp (pe_var hN hv hd hcd) ?_⟩
  intro σ H Q ⟨env, G, F, rep, h⟩
  unfold rN at h
  split at h
  · rename_i y e
    obtain ⟨v, e2, d⟩ := rep.getD e
    exact ⟨v, e2, h v G H (fun _ _ z => z) rep d⟩
  · rename_i y _ e
    obtain ⟨v, fp, e2, d⟩ := rep.get e
    exact ⟨v, e2, h v G H (fun _ _ z => z) rep e2⟩
  · exact h.elim
theorem qv_c {e : Expr} {v : V} {x : D} (h : PE X e (tC v)) (d : Rp X.K (fun _ => none) v x) : QV X e (rC x) := by
  refine ⟨fun env Q Q' f h => f _ _ h, pe_imp h ?_⟩
  intro σ H Q ⟨env, G, F, rep, h⟩
  exact h v G H (fun _ _ z => z) rep (rp_mono (fun _ _ z => by cases z) x d)
theorem qv_int {i : Int} {j : Nat} {pos : Pos} : QV X (.Constant (.int i) j pos) (rC (.int i)) := qv_c pe_int (.int i)
theorem qv_bl {b : Bool} {j : Nat} {pos : Pos} : QV X (.Constant (.bool b) j pos) (rC (.bool b)) := qv_c pe_bl (.bl b)
theorem qv_non {j : Nat} {pos : Pos} : QV X (.Constant .none j pos) (rC .none) := qv_c pe_non .non
theorem qv_str {x : Str} {j : Nat} {pos : Pos} : QV X (.Constant (.str x) j pos) (rC (.str x)) := qv_c pe_str (.str x)
/-- a module's constant -/
theorem qv_glob {x : Str} {v : V} {u : Value} {y : D} {pos : Pos} (hm : X.mg x = some u) (r : RelV v u) (d : Rp X.K (fun _ => none) v y) (hg : Gl X x := by rfl) (hd : (x == ("__debug__" : Str)) = false := by decide) : QV X (.Name x pos) (rC y) := qv_c (pe_glob hg hm r hd) d
end

/-! ### operands -/
def dref (e : Env) (a : Arg) (k : D → Prop) : Prop := match a with
  | .val x => k x
  | .bor i => match e[i]? with
    | some (some (.d x)) => k x
    | some (some (.own xs)) => k (.list xs)
    | _ => False
theorem dref.mono {e : Env} {a : Arg} {k k' : D → Prop} (f : ∀ x, k x → k' x) (h : dref e a k) : dref e a k' := by
  unfold dref at *
  split at h
  · exact f _ h
  · split at h
    · exact f _ h
    · exact f _ h
    · exact h.elim
/-- a value that is read: data, or a list of one's own -/
def Pk (K : Fg) (G H : Hp) (v : V) (x : D) : Prop := Rp K G v x ∨ ∃ p vs xs, v = .ref p ∧ x = .list xs ∧ H p = some (.lst vs) ∧ RpAll K G vs xs
section
variable {K : Fg} {G F H : Hp} {σ : L2.St} {env : Env}
theorem dref_pk {a : Arg} {v : V} {k : D → Prop} (r : Rep K G F H σ env) (ha : ArgRep K G σ v a) (h : dref env a k) : ∃ x, Pk K G H v x ∧ k x := by
  unfold dref at h
  split at h
  · exact ⟨_, .inl ha, h⟩
  · rename_i i
    have ha : σ[i]? = some (some v) := ha
    split at h
    · rename_i y e
      obtain ⟨v2, e2, d⟩ := r.getD e
      rw [ha] at e2
      cases e2
      exact ⟨_, .inl d, h⟩
    · rename_i y e
      obtain ⟨p, vs, e2, d1, d2⟩ := r.getO e
      rw [ha] at e2
      cases e2
      exact ⟨_, .inr ⟨p, vs, _, rfl, rfl, d1, d2⟩, h⟩
    · exact h.elim
theorem Rep.gh (r : Rep K G F H σ env) : Same G H := let ⟨_, _, w⟩ := r; w.gh
theorem Pk.dp {v : V} {x : D} (h : Pk K G H v x) (s : Same G H) : Dp K H v x := by
  rcases h with h | ⟨p, vs, xs, rfl, rfl, h1, h2⟩
  · exact rp_dp x (rp_mono s x h)
  · exact .lst (.inl (.inl h1)) (rps_dp xs (rps_mono s xs h2))
theorem Pk.int {v : V} {i : Int} (h : Pk K G H v (.int i)) : v = .int i := by
  rcases h with h | ⟨p, vs, xs, _, e, _⟩
  · cases h; rfl
  · cases e
theorem Pk.str {v : V} {i : Str} (h : Pk K G H v (.str i)) : v = .str i := by
  rcases h with h | ⟨p, vs, xs, _, e, _⟩
  · cases h; rfl
  · cases e
theorem Pk.bl {v : V} {i : Bool} (h : Pk K G H v (.bool i)) : v = .bl i := by
  rcases h with h | ⟨p, vs, xs, _, e, _⟩
  · cases h; rfl
  · cases e
theorem Pk.lst {v : V} {xs : List D} (h : Pk K G H v (.list xs)) (s : Same G H) : ∃ p vs, v = .ref p ∧ Rd H p (.lst vs) ∧ RpAll K G vs xs := by
  rcases h with h | ⟨p, vs, ys, rfl, e, h1, h2⟩
  · cases h with
    | lst h t => exact ⟨_, _, rfl, rd_mono s h, t⟩
  · cases e
    exact ⟨p, vs, rfl, .inl h1, h2⟩
theorem Pk.tup {v : V} {xs : List D} (h : Pk K G H v (.tuple xs)) : ∃ p vs, v = .ref p ∧ TupQ K G p vs ∧ RpAll K G vs xs := by
  rcases h with h | ⟨p, vs, ys, _, e, _⟩
  · cases h with
    | tup h t => exact ⟨_, _, rfl, h, t⟩
  · cases e
theorem Pk.non {v : V} (h : Pk K G H v .none) : v = .non := by
  rcases h with h | ⟨p, vs, xs, _, e, _⟩
  · cases h; rfl
  · cases e
end

/-! ### binary operators -/
abbrev F2 := D → D → (O → Prop) → Prop
def F2.Mono (f : F2) : Prop := ∀ x y (k k' : O → Prop), (∀ o, k o → k' o) → f x y k → f x y k'
def F2.Ok (K : Fg) (f : F2) (r : R2) : Prop := ∀ {G F H : Hp} {σ : L2.St} {env : Env} {x y : D} {v u : V} {k : O → Prop} {Q : VK}, Rep K G F H σ env → Pk K G H v x → Pk K G H u y → f x y k →
  (∀ o w G' H', k o → Same G G' → RepV K G' F H' σ env w o → Q w H') → r v u H Q
def rOp (f : F2) (ra rb : RP) : RE := fun env Q => ra env fun a e1 => rb e1 fun b e2 => dref e2 a fun x => dref e2 b fun y => f x y fun o => Q o e2
theorem rOp_mono {f : F2} {ra rb : RP} (hf : f.Mono) (ma : MonoK ra) (mb : MonoK rb) : MonoK (rOp f ra rb) := fun env Q Q' g h =>
  ma _ _ _ (fun a e1 h => mb _ _ _ (fun b e2 h => dref.mono (fun x h => dref.mono (fun y h => hf _ _ _ _ (fun o => g o e2) h) h) h) h) h
theorem tOp_of {K : Fg} {f : F2} {r : R2} {ra rb : RP} (ok : f.Ok K r) (hf : f.Mono) (ma : MonoK ra) (mb : MonoK rb) (σ : L2.St) (H : Hp) (Q : VK) (h : liftO K (rOp f ra rb) σ H Q) : tOp r (liftP K ra) (liftP K rb) σ H Q := by
  obtain ⟨env, G, F, rep, h⟩ := h
  refine liftP_of ma rep h fun a e1 v G1 H1 h1 s1 rep1 d1 => ?_
  refine liftP_of mb rep1 h1 fun b e2 u G2 H2 h2 s2 rep2 d2 => ?_
  obtain ⟨x, p1, h3⟩ := dref_pk rep2 (d1.mono s2) h2
  obtain ⟨y, p2, h4⟩ := dref_pk rep2 d2 h3
  exact ok rep2 p1 p2 h4 fun o w G' H' k s r => k w G' H' ((s1.trans s2).trans s) r
theorem qe_op {X : Cx} {op : Operator} {f : F2} {r : R2} {a b : Expr} {ra rb : RP} {pos : Pos} (ho : OpR X (binaryOp op) r) (ok : f.Ok X.K r) (hf : f.Mono) (ha : QP X a ra) (hb : QP X b rb) : QE X (.BinOp a op b pos) (rOp f ra rb) :=
  ⟨rOp_mono hf ha.mono hb.mono, pe_imp (pe_op ho ha.run hb.run) (tOp_of ok hf ha.mono hb.mono)⟩

theorem OpR.or {X : Cx} {f : Value → Value → Sem Value} {r r' : R2} (h : OpR X f r) (h' : OpR X f r') : OpR X f (fun x y H Q => r x y H Q ∨ r' x y H Q) := by
  intro pins s σ H x y v u Q I rx ry q
  rcases q with q | q
  · exact h pins s σ H x y v u Q I rx ry q
  · exact h' pins s σ H x y v u Q I rx ry q
/-- list + list, both tracked or the script -/
def rCatR : R2 := fun x y H Q => ∃ l b xs zs, x = .ref l ∧ y = .ref b ∧ Rd H l (.lst xs) ∧ Rd H b (.lst zs) ∧ xs.length + zs.length ≤ sizeLine ∧ ∀ p, H p = none → Q (.ref p) (upd H p (.lst (xs ++ zs)))
theorem lstR {X : Cx} {pins : List (Addr × Obj)} {σ : L2.St} {H : Hp} {s : Shared} {l : Addr} {xs : List V} (I : Inv X pins σ H s) (hH : Rd H l (.lst xs)) : xs.length ≤ sizeLine ∧ ∃ (its : List Value) (n : Nat), Vals xs its ∧ xs.length = its.length ∧ s.heap.get? l = some { cls := .type "list", data := .seq its.toArray n } := by
  obtain ⟨z, its, n, r, e⟩ := hH.ok I.hok
  exact ⟨z, its, n, r, r.length, e⟩
theorem op_catR {X : Cx} : OpR X (binaryOp .Add) rCatR := by
  intro pins s σ H x y v u Q I rx ry h
  obtain ⟨l, b, xs, zs, rfl, rfl, hH, hB, hz, q⟩ := h
  cases rx
  cases ry
  obtain ⟨z, its, n, r, hl, e⟩ := lstR I hH
  obtain ⟨z2, its2, n2, r2, hl2, e2⟩ := lstR I hB
  refine PySem.P.add_list e e2 ?_ (by rw [List.size_toArray, List.size_toArray]; omega)
  have ea : its.toArray ++ its2.toArray = (its ++ its2).toArray := by simp
  rw [ea]
  exact ⟨.ref _, _, I.lnew (t' := s.toks) (r.append r2) (by rw [List.length_append]; omega), rfl, q _ I.fresh⟩
def rAddS : R2 := fun x y H Q => ∃ i j, x = .str i ∧ y = .str j ∧ i.length + j.length ≤ sizeLine ∧ Q (.str (i ++ j)) H
def rAdd (K : Fg) : R2 := fun x y H Q => (rI0 fun i j => .int (i + j)) x y H Q ∨ rAddS x y H Q ∨ rCatR x y H Q ∨ rCatF K x y H Q
theorem op_addAny {X : Cx} : OpR X (binaryOp .Add) (rAdd X.K) := OpR.or op_add (OpR.or op_add_str (OpR.or op_catR op_catF))
def dAdd : F2 := fun x y k => match x, y with
  | .int i, .int j => k (.d (.int (i + j)))
  | .str a, .str b => a.length + b.length ≤ sizeLine ∧ k (.d (.str (a ++ b)))
  | .list a, .list b => a.length + b.length ≤ sizeLine ∧ k (.own (a ++ b))
  | .tuple a, .tuple b => a.length + b.length ≤ sizeLine ∧ k (.d (.tuple (a ++ b)))
  | _, _ => False
theorem dAdd_mono : dAdd.Mono := by
  intro x y k k' f h
  unfold dAdd at *
  split at h
  · exact f _ h
  · exact ⟨h.1, f _ h.2⟩
  · exact ⟨h.1, f _ h.2⟩
  · exact ⟨h.1, f _ h.2⟩
  · exact h.elim
theorem RepV.d {K : Fg} {G F H : Hp} {σ : L2.St} {env : Env} {v : V} {x : D} (r : Rep K G F H σ env) (h : Rp K G v x) : RepV K G F H σ env v (.d x) := .of r h
/-- a new tuple, a new list -/
theorem Rep.tup {K : Fg} {G F H : Hp} {σ : L2.St} {env : Env} {p : Addr} {o : Obj} {vs : List V} {xs : List D} (r : Rep K G F H σ env) (h : H p = none) (ho : o.dict = none) (d : RpAll K G vs xs) : Same G (upd G p (.frz o (.tup vs))) ∧ RepV K (upd G p (.frz o (.tup vs))) F (upd H p (.frz o (.tup vs))) σ env (.ref p) (.d (.tuple xs)) :=
  ⟨(r.newG h).2, .of (r.newG h).1 (.tup (.inl ⟨o, upd_same, ho⟩) (rps_mono (r.newG (o := .frz o (.tup vs)) h).2 xs d))⟩
theorem Rep.lst {K : Fg} {G F H : Hp} {σ : L2.St} {env : Env} {p : Addr} {vs : List V} {xs : List D} (r : Rep K G F H σ env) (h : H p = none) (d : RpAll K G vs xs) : RepV K G F (upd H p (.lst vs)) σ env (.ref p) (.own xs) :=
  r.newO h ⟨p, vs, rfl, rfl, upd_same, d⟩
theorem dAdd_ok {K : Fg} : dAdd.Ok K (rAdd K) := by
  intro G F H σ env x y v u k Q rep px py h q
  have idS : Same G G := fun _ _ z => z
  unfold dAdd at h
  split at h
  · exact .inl ⟨_, _, px.int, py.int, q _ _ G H h idS (.of rep (.int _))⟩
  · exact .inr (.inl ⟨_, _, px.str, py.str, h.1, q _ _ G H h.2 idS (.of rep (.str _))⟩)
  · obtain ⟨l, vs, rfl, h1, d1⟩ := px.lst rep.gh
    obtain ⟨b, ws, rfl, h2, d2⟩ := py.lst rep.gh
    refine .inr (.inr (.inl ⟨l, b, vs, ws, rfl, rfl, h1, h2, by rw [rps_len d1, rps_len d2]; exact h.1, fun p hp => ?_⟩))
    exact q _ _ G _ h.2 idS (rep.lst hp (rps_append d1 d2))
  · obtain ⟨l, vs, rfl, h1, d1⟩ := px.tup
    obtain ⟨b, ws, rfl, h2, d2⟩ := py.tup
    refine .inr (.inr (.inr ⟨l, b, vs, ws, rfl, rfl, (tq_mono rep.gh h1).sq, (tq_mono rep.gh h2).sq, by rw [rps_len d1, rps_len d2]; exact h.1, fun e => ?_, fun e e2 => ?_, fun e e2 p o ho hp => ?_⟩))
    · subst e
      cases d1
      exact q _ _ G H h.2 idS (.of rep (.tup h2 d2))
    · subst e2
      cases d2
      rw [List.append_nil] at h
      exact q _ _ G H h.2 idS (.of rep (.tup h1 d1))
    · have r2 := rep.tup hp ho (rps_append d1 d2)
      exact q _ _ _ _ h.2 r2.1 r2.2
  · exact h.elim
theorem qe_add {X : Cx} {a b : Expr} {ra rb : RP} {pos : Pos} (ha : QP X a ra) (hb : QP X b rb) : QE X (.BinOp a .Add b pos) (rOp dAdd ra rb) := qe_op op_addAny dAdd_ok dAdd_mono ha hb

/-- two ints -/
def dI (C : Int → Int → Prop) (g : Int → Int → Int) : F2 := fun x y k => match x, y with
  | .int i, .int j => C i j ∧ k (.d (.int (g i j)))
  | _, _ => False
theorem dI_mono {C : Int → Int → Prop} {g : Int → Int → Int} : (dI C g).Mono := by
  intro x y k k' f h
  unfold dI at *
  split at h
  · exact ⟨h.1, f _ h.2⟩
  · exact h.elim
theorem dI_ok {K : Fg} {C : Int → Int → Prop} {g : Int → Int → Int} : (dI C g).Ok K (rI C fun i j => .int (g i j)) := by
  intro G F H σ env x y v u k Q rep px py h q
  unfold dI at h
  split at h
  · exact ⟨_, _, px.int, py.int, h.1, q _ _ G H h.2 (fun _ _ z => z) (.of rep (.int _))⟩
  · exact h.elim
/-- no condition -/
def dI0 (g : Int → Int → Int) : F2 := fun x y k => match x, y with
  | .int i, .int j => k (.d (.int (g i j)))
  | _, _ => False
theorem dI0_mono {g : Int → Int → Int} : (dI0 g).Mono := by
  intro x y k k' f h
  unfold dI0 at *
  split at h
  · exact f _ h
  · exact h.elim
theorem dI0_ok {K : Fg} {g : Int → Int → Int} : (dI0 g).Ok K (rI0 fun i j => .int (g i j)) := by
  intro G F H σ env x y v u k Q rep px py h q
  unfold dI0 at h
  split at h
  · exact ⟨_, _, px.int, py.int, q _ _ G H h (fun _ _ z => z) (.of rep (.int _))⟩
  · exact h.elim
def CDivA (_ j : Int) : Prop := j ≠ 0 ∧ j.natAbs.log2 < 9000
def CShl (i j : Int) : Prop := 0 ≤ j ∧ (Builtin.Int.intBits i : Int) + j ≤ 2 ^ 27
def CPowA (i j : Int) : Prop := 0 ≤ j ∧ (Builtin.Int.intBits i : Int) * j ≤ 2 ^ 27
section
variable {X : Cx} {a b : Expr} {ra rb : RP} {pos : Pos}
theorem op_fdivA : OpR X (binaryOp .FloorDiv) (rI CDivA fun i j => .int (i.fdiv j)) := opI fun _ _ _ _ _ _ _ hc q => floordiv_int hc.1 q (.inl (PyProof.noPylong_of_log2 hc.2))
theorem op_mulA : OpR X (binaryOp .Mult) (rI IntMulOk fun i j => .int (i * j)) := opI fun _ _ _ _ _ _ _ hc q => mul_int q hc
theorem op_powA : OpR X (binaryOp .Pow) (rI CPowA fun i j => .int (i ^ j.toNat)) := opI fun _ _ _ _ _ _ _ hc q => pow_int hc.1 hc.2 q
theorem op_shlA : OpR X (binaryOp .LShift) (rI CShl fun i j => .int (i * 2 ^ j.toNat)) := opI fun _ _ _ _ _ _ _ hc q => lshift_int hc.1 hc.2 q
theorem qe_sub (ha : QP X a ra) (hb : QP X b rb) : QE X (.BinOp a .Sub b pos) (rOp (dI0 fun i j => i - j) ra rb) := qe_op op_sub dI0_ok dI0_mono ha hb
theorem qe_fdiv (ha : QP X a ra) (hb : QP X b rb) : QE X (.BinOp a .FloorDiv b pos) (rOp (dI CDivA Int.fdiv) ra rb) := qe_op op_fdivA dI_ok dI_mono ha hb
theorem qe_mod (ha : QP X a ra) (hb : QP X b rb) : QE X (.BinOp a .Mod b pos) (rOp (dI (fun _ j => j ≠ 0) Int.fmod) ra rb) := qe_op op_modN dI_ok dI_mono ha hb
theorem qe_pow (ha : QP X a ra) (hb : QP X b rb) : QE X (.BinOp a .Pow b pos) (rOp (dI CPowA fun i j => i ^ j.toNat) ra rb) := qe_op op_powA dI_ok dI_mono ha hb
theorem qe_shl (ha : QP X a ra) (hb : QP X b rb) : QE X (.BinOp a .LShift b pos) (rOp (dI CShl fun i j => i * 2 ^ j.toNat) ra rb) := qe_op op_shlA dI_ok dI_mono ha hb
theorem qe_shr (ha : QP X a ra) (hb : QP X b rb) : QE X (.BinOp a .RShift b pos) (rOp (dI (fun _ j => 0 ≤ j) fun i j => i / 2 ^ j.toNat) ra rb) := qe_op op_shr dI_ok dI_mono ha hb
theorem qe_band (ha : QP X a ra) (hb : QP X b rb) : QE X (.BinOp a .BitAnd b pos) (rOp (dI0 Builtin.bitAnd) ra rb) := qe_op op_and dI0_ok dI0_mono ha hb
end
end Pf
namespace Pf
open PySem PySem.Spec PyProof.Rows L2
/-! ### times -/
def rRepR : R2 := fun x y H Q => ∃ l k xs, x = .ref l ∧ y = .int k ∧ Rd H l (.lst xs) ∧ -(2 ^ 63) ≤ k ∧ k < 2 ^ 63 ∧ xs.length * k.toNat ≤ sizeLine ∧
  ∀ p, H p = none → Q (.ref p) (upd H p (.lst (List.replicate k.toNat xs).flatten))
theorem rps_flat {K : Fg} {G : Hp} {xs : List D} {vs : List V} (h : RpAll K G vs xs) : ∀ n : Nat, RpAll K G (List.replicate n vs).flatten (List.replicate n xs).flatten
  | 0 => .nil
  | n + 1 => by
    rw [List.replicate_succ, List.replicate_succ, List.flatten_cons, List.flatten_cons]
    exact rps_append h (rps_flat h n)
def rMulA (K : Fg) : R2 := fun x y H Q => (rI IntMulOk fun i j => .int (i * j)) x y H Q ∨ rRep x y H Q ∨ rRepF K x y H Q
theorem op_mulAny {X : Cx} : OpR X (binaryOp .Mult) (rMulA X.K) := OpR.or op_mulA (OpR.or op_rep op_repF)
/-- times: two ints; a list that was just made, a tuple, times an int -/
def dMul : F2 := fun x y k => match x, y with
  | .int i, .int j => IntMulOk i j ∧ k (.d (.int (i * j)))
  | .tuple xs, .int n => xs ≠ [] ∧ 2 ≤ n ∧ n ≤ 1000 ∧ xs.length ≤ 1000 ∧ k (.d (.tuple (List.replicate n.toNat xs).flatten))
  | _, _ => False
theorem dMul_mono : dMul.Mono := by
  intro x y k k' f h
  unfold dMul at *
  split at h
  · exact ⟨h.1, f _ h.2⟩
  · exact ⟨h.1, h.2.1, h.2.2.1, h.2.2.2.1, f _ h.2.2.2.2⟩
  · exact h.elim
theorem dMul_ok {K : Fg} : dMul.Ok K (rMulA K) := by
  intro G F H σ env x y v u k Q rep px py h q
  have idS : Same G G := fun _ _ z => z
  unfold dMul at h
  split at h
  · exact .inl ⟨_, _, px.int, py.int, h.1, q _ _ G H h.2 idS (.of rep (.int _))⟩
  · obtain ⟨l, vs, rfl, h1, d1⟩ := px.tup
    obtain ⟨h2, h3, h4, h5, h6⟩ := h
    refine .inr (.inr ⟨l, _, vs, rfl, py.int, (tq_mono rep.gh h1).sq, fun e => h2 ?_, h3, h4, by rw [rps_len d1]; exact h5, fun p o ho hp => ?_⟩)
    · subst e
      cases d1
      rfl
    · rename_i n
      have r2 := rep.tup hp ho (rps_flat d1 n.toNat)
      exact q _ _ _ _ h6 r2.1 r2.2
  · exact h.elim
theorem qe_mul {X : Cx} {a b : Expr} {ra rb : RP} {pos : Pos} (ha : QP X a ra) (hb : QP X b rb) : QE X (.BinOp a .Mult b pos) (rOp dMul ra rb) := qe_op op_mulAny dMul_ok dMul_mono ha hb
/-- [a, ..] * n: the display and the list that it becomes -/
def rRepL (ra : RE) (rb : RV) : RE := fun env Q => ra env fun o e1 => rb e1 fun y e2 => match o, y with
  | .own xs, .int n => -(2 ^ 63) ≤ n ∧ n < 2 ^ 63 ∧ xs.length * n.toNat ≤ sizeLine ∧ Q (.own (List.replicate n.toNat xs).flatten) e2
  | _, _ => False
theorem qe_repL {X : Cx} {a b : Expr} {ra : RE} {rb : RV} {pos : Pos} (ha : QE X a ra) (hb : QV X b rb) : QE X (.BinOp a .Mult b pos) (rRepL ra rb) := by
  refine ⟨?_, pe_imp (pe_op op_rep ha.run hb.run) ?_⟩
  · intro env Q Q' f h
    refine ha.mono _ _ _ (fun o e h => hb.mono _ _ _ (fun y e h => ?_) h) h
    split at h
    · exact ⟨h.1, h.2.1, h.2.2.1, f _ _ h.2.2.2⟩
    · exact h.elim
  · intro σ H Q ⟨env, G, F, rep, h⟩
    refine liftO_of ha.mono rep h fun o e1 v G1 H1 h1 s1 rv1 => ?_
    obtain ⟨fp, fpv, sl, ro, w⟩ := rv1
    cases o with
    | own xs =>
      obtain ⟨p, vs, rfl, rfl, hp, hd⟩ := ro
      -- the list is held as somebody else's while the right side runs
      have hF : ∀ a, upd F p (.lst vs) a ≠ none → a = p ∨ F a ≠ none := by
        intro a e
        by_cases z : a = p
        · exact .inl z
        · rw [upd_ne z] at e
          exact .inr e
      have nd := w.nd
      rw [List.singleton_append, List.nodup_cons] at nd
      have rep1 : Rep X.K G1 (upd F p (.lst vs)) H1 σ e1 := by
        refine ⟨fp, sl, w.gh, same_updL w.fh hp, fun a e => ?_, nd.2, fun a m => w.pg a (by simp [m]), fun a m => ?_⟩
        · have z : a ≠ p := fun z => e (by rw [z]; exact w.pg p (by simp))
          rw [upd_ne z]
          exact w.gf a e
        · have z : a ≠ p := fun z => nd.1 (by rw [← z]; exact m)
          rw [upd_ne z]
          exact w.pf a (by simp [m])
      refine liftV_of hb.mono rep1 h1 fun y e2 u G2 H2 h2 s2 rep2 d2 => ?_
      split at h2
      · rename_i xs' n e
        cases e
        cases d2
        obtain ⟨c1, c2, c3, h3⟩ := h2
        obtain ⟨fp2, sl2, w2⟩ := rep2
        have hp2 : H2 p = some (.lst vs) := w2.fh p _ upd_same
        refine ⟨p, n, vs, rfl, rfl, hp2, c1, c2, by rw [rps_len hd]; exact c3, fun q hq => ?_⟩
        have rep3 : Rep X.K G2 F H2 σ e2 := by
          refine ⟨fp2, sl2, w2.gh, fun a o e => w2.fh a o ?_, fun a e => ?_, w2.nd, w2.pg, fun a m => ?_⟩
          · have z : a ≠ p := fun z => by
              rw [z, w.pf p (by simp)] at e
              cases e
            rw [upd_ne z]
            exact e
          · have := w2.gf a e
            by_cases z : a = p
            · rw [z]; exact w.pf p (by simp)
            · rw [upd_ne z] at this
              exact this
          · have := w2.pf a m
            by_cases z : a = p
            · rw [z]; exact w.pf p (by simp)
            · rw [upd_ne z] at this
              exact this
        exact h3 _ G2 _ (s1.trans s2) (rep3.lst hq (rps_flat (rps_mono s2 xs hd) _))
      · exact h2.elim
    | d x =>
      have rep1 : Rep X.K G1 F H1 σ e1 := ⟨fp, sl, w.sub (List.sublist_append_right _ _)⟩
      exact liftV_of hb.mono rep1 h1 fun y e2 u G2 H2 h2 s2 rep2 d2 => h2.elim
    | dct x =>
      have rep1 : Rep X.K G1 F H1 σ e1 := ⟨fp, sl, w.sub (List.sublist_append_right _ _)⟩
      exact liftV_of hb.mono rep1 h1 fun y e2 u G2 H2 h2 s2 rep2 d2 => h2.elim
    | res x =>
      have rep1 : Rep X.K G1 F H1 σ e1 := ⟨fp, sl, w.sub (List.sublist_append_right _ _)⟩
      exact liftV_of hb.mono rep1 h1 fun y e2 u G2 H2 h2 s2 rep2 d2 => h2.elim

/-! ### comparisons -/
abbrev B2 := D → D → (Bool → Prop) → Prop
def B2.Mono (f : B2) : Prop := ∀ x y (k k' : Bool → Prop), (∀ o, k o → k' o) → f x y k → f x y k'
def B2.Ok (K : Fg) (f : B2) (r : R2) : Prop := ∀ {G H : Hp} {x y : D} {v u : V} {k : Bool → Prop} {Q : VK}, Same G H → Pk K G H v x → Pk K G H u y → f x y k → (∀ b, k b → Q (.bl b) H) → r v u H Q
def rCmp (f : B2) (ra rb : RP) : RT := fun env Q => ra env fun a e1 => rb e1 fun b e2 => dref e2 a fun x => dref e2 b fun y => f x y fun o => Q o e2
def rTV (r : RT) : RV := fun env Q => r env fun b e => Q (.bool b) e
theorem rCmp_mono {f : B2} {ra rb : RP} (hf : f.Mono) (ma : MonoK ra) (mb : MonoK rb) : MonoK (rCmp f ra rb) := fun env Q Q' g h =>
  ma _ _ _ (fun a e1 h => mb _ _ _ (fun b e2 h => dref.mono (fun x h => dref.mono (fun y h => hf _ _ _ _ (fun o => g o e2) h) h) h) h) h
theorem tCmp_of {K : Fg} {f : B2} {r : R2} {ra rb : RP} (ok : f.Ok K r) (hf : f.Mono) (ma : MonoK ra) (mb : MonoK rb) {G F H : Hp} {σ : L2.St} {env : Env} {Q0 : Bool → Env → Prop} {Q : VK} (rep : Rep K G F H σ env) (h : rCmp f ra rb env Q0)
    (q : ∀ b e G' H', Q0 b e → Same G G' → Rep K G' F H' σ e → Q (.bl b) H') : tOp r (liftP K ra) (liftP K rb) σ H Q := by
  refine liftP_of ma rep h fun a e1 v G1 H1 h1 s1 rep1 d1 => ?_
  refine liftP_of mb rep1 h1 fun b e2 u G2 H2 h2 s2 rep2 d2 => ?_
  obtain ⟨x, p1, h3⟩ := dref_pk rep2 (d1.mono s2) h2
  obtain ⟨y, p2, h4⟩ := dref_pk rep2 d2 h3
  exact ok rep2.gh p1 p2 h4 fun b k => q b e2 G2 H2 k (s1.trans s2) rep2
section
variable {X : Cx} {op : CmpOp} {f : B2} {r : R2} {a b : Expr} {ra rb : RP} {pos : Pos}
theorem qt_cmp (ho : OpR X (compareOp op) r) (ok : f.Ok X.K r) (hf : f.Mono) (ha : QP X a ra) (hb : QP X b rb) (hm : behindInMarks op b = false) : QT X (.Compare a [op] [b] pos) (rCmp f ra rb) :=
  ⟨rCmp_mono hf ha.mono hb.mono, pt_imp (pt_cmpR ho ha.run hb.run hm) fun σ H Q ⟨env, G, F, rep, h⟩ => tCmp_of ok hf ha.mono hb.mono rep h fun b e G' H' k s r => ⟨b, rfl, k G' H' s r⟩⟩
theorem qv_cmp (ho : OpR X (compareOp op) r) (ok : f.Ok X.K r) (hf : f.Mono) (ha : QP X a ra) (hb : QP X b rb) (hm : behindInMarks op b = false) : QV X (.Compare a [op] [b] pos) (rTV (rCmp f ra rb)) :=
  ⟨fun env Q Q' g h => rCmp_mono hf ha.mono hb.mono _ _ _ (fun b e => g _ _) h, pe_imp (pe_cmpR ho ha.run hb.run hm) fun σ H Q ⟨env, G, F, rep, h⟩ => tCmp_of ok hf ha.mono hb.mono rep h fun b e G' H' k s r => k _ G' H' s r (.bl b)⟩
end
/-- equal: scalars of one kind at once, all else by the model's own equality of data -/
def dEq (neg : Bool) : B2 := fun x y k => match x, y with
  | .int i, .int j => k (if neg then !decide (i = j) else decide (i = j))
  | x, y => SeqAt.shaped x = true ∧ SeqAt.shaped y = true ∧ k (if neg then !PyData.eqv x y else PyData.eqv x y)
theorem dEq_mono {neg : Bool} : (dEq neg).Mono := by
  intro x y k k' f h
  unfold dEq at *
  split at h
  · exact f _ h
  · exact ⟨h.1, h.2.1, f _ h.2.2⟩
theorem dEq_ok {K : Fg} : (dEq false).Ok K (rEqD K) := by
  intro G H x y v u k Q s px py h q
  unfold dEq at h
  split at h
  · exact ⟨_, _, px.dp s, py.dp s, rfl, rfl, by
      show Q (.bl (PyData.eqv (.int _) (.int _))) H
      rw [PyData.eqv, Bool.beq_eq_decide_eq]
      exact q _ h⟩
  · exact ⟨_, _, px.dp s, py.dp s, h.1, h.2.1, q _ h.2.2⟩
theorem dNe_ok {K : Fg} : (dEq true).Ok K (rNeD K) := by
  intro G H x y v u k Q s px py h q
  unfold dEq at h
  split at h
  · exact ⟨_, _, px.dp s, py.dp s, rfl, rfl, by
      show Q (.bl (!PyData.eqv (.int _) (.int _))) H
      rw [PyData.eqv, Bool.beq_eq_decide_eq]
      exact q _ h⟩
  · exact ⟨_, _, px.dp s, py.dp s, h.1, h.2.1, q _ h.2.2⟩
def dOrd (p : Int → Int → Bool) : B2 := fun x y k => match x, y with
  | .int i, .int j => k (p i j)
  | _, _ => False
theorem dOrd_mono {p : Int → Int → Bool} : (dOrd p).Mono := by
  intro x y k k' f h
  unfold dOrd at *
  split at h
  · exact f _ h
  · exact h.elim
theorem dOrd_ok {K : Fg} {p : Int → Int → Bool} : (dOrd p).Ok K (rI0 fun i j => .bl (p i j)) := by
  intro G H x y v u k Q s px py h q
  unfold dOrd at h
  split at h
  · exact ⟨_, _, px.int, py.int, q _ h⟩
  · exact h.elim
/-- is None -/
def isNone : D → Bool
  | .none => true
  | _ => false
def dIsN (neg : Bool) : B2 := fun x y k => match y with
  | .none => k (if neg then !isNone x else isNone x)
  | _ => False
theorem dIsN_mono {neg : Bool} : (dIsN neg).Mono := by
  intro x y k k' f h
  unfold dIsN at *
  split at h
  · exact f _ h
  · exact h.elim
theorem pk_isNone {K : Fg} {G H : Hp} {v : V} {x : D} (h : Pk K G H v x) : decide (v = .non) = isNone x := by
  rcases h with h | ⟨p, vs, xs, rfl, rfl, _⟩
  · cases h <;> rfl
  · rfl
theorem dIsN_ok {K : Fg} : (dIsN false).Ok K (fun x y H Q => y = .non ∧ Q (.bl (decide (x = .non))) H) := by
  intro G H x y v u k Q s px py h q
  unfold dIsN at h
  split at h
  · exact ⟨py.non, by rw [pk_isNone px]; exact q _ h⟩
  · exact h.elim
theorem dNotN_ok {K : Fg} : (dIsN true).Ok K (fun x y H Q => y = .non ∧ Q (.bl (!decide (x = .non))) H) := by
  intro G H x y v u k Q s px py h q
  unfold dIsN at h
  split at h
  · exact ⟨py.non, by rw [pk_isNone px]; exact q _ h⟩
  · exact h.elim
/-- flat things: what in asks -/
def flatD : D → Bool
  | .none | .bool _ | .int _ | .str _ => true
  | _ => false
def flatEq : D → D → Bool
  | .none, .none => true
  | .bool a, .bool b => a == b
  | .bool a, .int j => (if a then 1 else 0) == j
  | .int i, .bool b => i == (if b then 1 else 0)
  | .int i, .int j => i == j
  | .str x, .str y => x == y
  | _, _ => false
end Pf
namespace Pf
open PySem PySem.Spec PyProof.Rows L2
theorem flat_rp {K : Fg} {G : Hp} {v : V} {x : D} (h : Rp K G v x) (f : flatD x = true) : flatV v = true := by
  cases h <;> first | rfl | cases f
theorem flat_eq {K : Fg} {G G' : Hp} {v u : V} {x y : D} (h : Rp K G v x) (h' : Rp K G' u y) (f : flatD x = true) (f' : flatD y = true) : eqV v u = flatEq x y := by
  cases h <;> first | (cases f; done) | (cases h' <;> first | rfl | (cases f'; done))
theorem flats_rp {K : Fg} {G : Hp} : ∀ {xs : List D} {vs : List V}, RpAll K G vs xs → xs.all flatD = true → vs.all flatV = true
  | [], _, .nil, _ => rfl
  | x :: xs, _, .cons h t, f => by
    rw [List.all_cons, Bool.and_eq_true] at f ⊢
    exact ⟨flat_rp h f.1, flats_rp t f.2⟩
def inD (x : D) (xs : List D) : Bool := xs.any fun y => flatEq y x
theorem inV_rp {K : Fg} {G G' : Hp} {v : V} {x : D} (h : Rp K G' v x) (f : flatD x = true) : ∀ {xs : List D} {vs : List V}, RpAll K G vs xs → xs.all flatD = true → inV v vs = inD x xs
  | [], _, .nil, _ => rfl
  | y :: xs, _, .cons h1 t, g => by
    rw [List.all_cons, Bool.and_eq_true] at g
    have e := inV_rp h f t g.2
    unfold inV inD at *
    rw [List.any_cons, List.any_cons, e, flat_eq h1 h g.1 f]
/-- in, not in: a list or a tuple of flat things; a text in a text -/
def dIn (neg : Bool) : B2 := fun x y k => match y with
  | .list ys => flatD x = true ∧ ys.all flatD = true ∧ k (if neg then !inD x ys else inD x ys)
  | .tuple ys => flatD x = true ∧ ys.all flatD = true ∧ k (if neg then !inD x ys else inD x ys)
  | _ => False
theorem dIn_mono {neg : Bool} : (dIn neg).Mono := by
  intro x y k k' f h
  unfold dIn at *
  split at h
  · exact ⟨h.1, h.2.1, f _ h.2.2⟩
  · exact ⟨h.1, h.2.1, f _ h.2.2⟩
  · exact h.elim
theorem pk_flat {K : Fg} {G H : Hp} {v : V} {x : D} (h : Pk K G H v x) (f : flatD x = true) : Rp K G v x := by
  rcases h with h | ⟨p, vs, xs, rfl, rfl, _⟩
  · exact h
  · cases f
theorem dIn_ok {K : Fg} {neg : Bool} : (dIn neg).Ok K (rIn K neg) := by
  intro G H x y v u k Q s px py h q
  unfold dIn at h
  split at h
  · obtain ⟨p, vs, rfl, h1, d1⟩ := py.lst s
    have hx := pk_flat px h.1
    exact ⟨p, vs, rfl, .inl (.inl h1), flat_rp hx h.1, flats_rp d1 h.2.1, by rw [inV_rp hx h.1 d1 h.2.1]; exact q _ h.2.2⟩
  · obtain ⟨p, vs, rfl, h1, d1⟩ := py.tup
    have hx := pk_flat px h.1
    exact ⟨p, vs, rfl, .inr (tq_mono s h1).sq, flat_rp hx h.1, flats_rp d1 h.2.1, by rw [inV_rp hx h.1 d1 h.2.1]; exact q _ h.2.2⟩
  · exact h.elim
section
variable {X : Cx} {a b c : Expr} {ra rb : RP} {pos : Pos}
theorem qt_eq (hu : X.A.units + 64 < cLine) (ha : QP X a ra) (hb : QP X b rb) (hm : behindInMarks .Eq b = false := by exact nomark _) : QT X (.Compare a [.Eq] [b] pos) (rCmp (dEq false) ra rb) := qt_cmp (op_eqD hu) dEq_ok dEq_mono ha hb hm
theorem qt_ne (hu : X.A.units + 64 < cLine) (ha : QP X a ra) (hb : QP X b rb) (hm : behindInMarks .NotEq b = false := by exact nomark _) : QT X (.Compare a [.NotEq] [b] pos) (rCmp (dEq true) ra rb) := qt_cmp (op_neD hu) dNe_ok dEq_mono ha hb hm
theorem qt_lt (ha : QP X a ra) (hb : QP X b rb) (hm : behindInMarks .Lt b = false := by exact nomark _) : QT X (.Compare a [.Lt] [b] pos) (rCmp (dOrd fun i j => decide (i < j)) ra rb) := qt_cmp op_lt dOrd_ok dOrd_mono ha hb hm
theorem qt_le (ha : QP X a ra) (hb : QP X b rb) (hm : behindInMarks .LtE b = false := by exact nomark _) : QT X (.Compare a [.LtE] [b] pos) (rCmp (dOrd fun i j => decide (i ≤ j)) ra rb) := qt_cmp op_le dOrd_ok dOrd_mono ha hb hm
theorem qt_gt (ha : QP X a ra) (hb : QP X b rb) (hm : behindInMarks .Gt b = false := by exact nomark _) : QT X (.Compare a [.Gt] [b] pos) (rCmp (dOrd fun i j => decide (j < i)) ra rb) := qt_cmp op_gt dOrd_ok dOrd_mono ha hb hm
theorem qt_ge (ha : QP X a ra) (hb : QP X b rb) (hm : behindInMarks .GtE b = false := by exact nomark _) : QT X (.Compare a [.GtE] [b] pos) (rCmp (dOrd fun i j => decide (j ≤ i)) ra rb) := qt_cmp op_ge dOrd_ok dOrd_mono ha hb hm
theorem qt_isN (ha : QP X a ra) (hb : QP X b rb) (hm : behindInMarks .Is b = false := by exact nomark _) : QT X (.Compare a [.Is] [b] pos) (rCmp (dIsN false) ra rb) := qt_cmp op_isN dIsN_ok dIsN_mono ha hb hm
theorem qt_notN (ha : QP X a ra) (hb : QP X b rb) (hm : behindInMarks .IsNot b = false := by exact nomark _) : QT X (.Compare a [.IsNot] [b] pos) (rCmp (dIsN true) ra rb) := qt_cmp op_notN dNotN_ok dIsN_mono ha hb hm
theorem qt_in (ha : QP X a ra) (hb : QP X b rb) (hm : behindInMarks .In b = false := by rfl) : QT X (.Compare a [.In] [b] pos) (rCmp (dIn false) ra rb) := qt_cmp op_in_seq dIn_ok dIn_mono ha hb hm
theorem qt_notin (ha : QP X a ra) (hb : QP X b rb) (hm : behindInMarks .NotIn b = false := by rfl) : QT X (.Compare a [.NotIn] [b] pos) (rCmp (dIn true) ra rb) := qt_cmp op_notIn_seq dIn_ok dIn_mono ha hb hm
theorem qv_eq (hu : X.A.units + 64 < cLine) (ha : QP X a ra) (hb : QP X b rb) (hm : behindInMarks .Eq b = false := by exact nomark _) : QV X (.Compare a [.Eq] [b] pos) (rTV (rCmp (dEq false) ra rb)) := qv_cmp (op_eqD hu) dEq_ok dEq_mono ha hb hm
theorem qv_ne (hu : X.A.units + 64 < cLine) (ha : QP X a ra) (hb : QP X b rb) (hm : behindInMarks .NotEq b = false := by exact nomark _) : QV X (.Compare a [.NotEq] [b] pos) (rTV (rCmp (dEq true) ra rb)) := qv_cmp (op_neD hu) dNe_ok dEq_mono ha hb hm
theorem qv_lt (ha : QP X a ra) (hb : QP X b rb) (hm : behindInMarks .Lt b = false := by exact nomark _) : QV X (.Compare a [.Lt] [b] pos) (rTV (rCmp (dOrd fun i j => decide (i < j)) ra rb)) := qv_cmp op_lt dOrd_ok dOrd_mono ha hb hm
theorem qv_le (ha : QP X a ra) (hb : QP X b rb) (hm : behindInMarks .LtE b = false := by exact nomark _) : QV X (.Compare a [.LtE] [b] pos) (rTV (rCmp (dOrd fun i j => decide (i ≤ j)) ra rb)) := qv_cmp op_le dOrd_ok dOrd_mono ha hb hm
theorem qv_gt (ha : QP X a ra) (hb : QP X b rb) (hm : behindInMarks .Gt b = false := by exact nomark _) : QV X (.Compare a [.Gt] [b] pos) (rTV (rCmp (dOrd fun i j => decide (j < i)) ra rb)) := qv_cmp op_gt dOrd_ok dOrd_mono ha hb hm
theorem qv_ge (ha : QP X a ra) (hb : QP X b rb) (hm : behindInMarks .GtE b = false := by exact nomark _) : QV X (.Compare a [.GtE] [b] pos) (rTV (rCmp (dOrd fun i j => decide (j ≤ i)) ra rb)) := qv_cmp op_ge dOrd_ok dOrd_mono ha hb hm
theorem qv_isN (ha : QP X a ra) (hb : QP X b rb) (hm : behindInMarks .Is b = false := by exact nomark _) : QV X (.Compare a [.Is] [b] pos) (rTV (rCmp (dIsN false) ra rb)) := qv_cmp op_isN dIsN_ok dIsN_mono ha hb hm
theorem qv_notN (ha : QP X a ra) (hb : QP X b rb) (hm : behindInMarks .IsNot b = false := by exact nomark _) : QV X (.Compare a [.IsNot] [b] pos) (rTV (rCmp (dIsN true) ra rb)) := qv_cmp op_notN dNotN_ok dIsN_mono ha hb hm
theorem qv_in (ha : QP X a ra) (hb : QP X b rb) (hm : behindInMarks .In b = false := by rfl) : QV X (.Compare a [.In] [b] pos) (rTV (rCmp (dIn false) ra rb)) := qv_cmp op_in_seq dIn_ok dIn_mono ha hb hm
theorem qv_notin (ha : QP X a ra) (hb : QP X b rb) (hm : behindInMarks .NotIn b = false := by rfl) : QV X (.Compare a [.NotIn] [b] pos) (rTV (rCmp (dIn true) ra rb)) := qv_cmp op_notIn_seq dIn_ok dIn_mono ha hb hm
end
/-- a chain of two comparisons -/
def rChain (f f' : B2) (ra rb rc : RP) : RT := fun env Q => ra env fun a e1 => rb e1 fun b e2 => dref e2 a fun x => dref e2 b fun y => f x y fun o => if o = true then rc e2 fun c e3 => dref e3 b fun y => dref e3 c fun z => f' y z fun o' => Q o' e3 else Q false e2
theorem rChain_mono {f f' : B2} {ra rb rc : RP} (hf : f.Mono) (hf' : f'.Mono) (ma : MonoK ra) (mb : MonoK rb) (mc : MonoK rc) : MonoK (rChain f f' ra rb rc) := fun env Q Q' g h =>
  ma _ _ _ (fun a e1 h => mb _ _ _ (fun b e2 h => dref.mono (fun x h => dref.mono (fun y h => hf _ _ _ _ (fun o h => by
    split at h
    · rename_i ho
      rw [if_pos ho]
      exact mc _ _ _ (fun c e3 h => dref.mono (fun y h => dref.mono (fun z h => hf' _ _ _ _ (fun o' h => g _ _ h) h) h) h) h
    · rename_i ho
      rw [if_neg ho]
      exact g _ _ h) h) h) h) h) h
section
variable {X : Cx} {op op' : CmpOp} {f f' : B2} {r r' : R2} {a b c : Expr} {ra rb rc : RP} {pos : Pos}
theorem tChain_of {K : Fg} (ok : f.Ok K r) (hf : f.Mono) (ok' : f'.Ok K r') (hf' : f'.Mono) (ma : MonoK ra) (mb : MonoK rb) (mc : MonoK rc) {G F H : Hp} {σ : L2.St} {env : Env} {Q0 : Bool → Env → Prop} {Q : VK} (rep : Rep K G F H σ env) (h : rChain f f' ra rb rc env Q0)
    (q : ∀ b e G' H', Q0 b e → Same G G' → Rep K G' F H' σ e → Q (.bl b) H') : tChain r r' (liftP K ra) (liftP K rb) (liftP K rc) σ H Q := by
  refine liftP_of ma rep h fun a e1 v G1 H1 h1 s1 rep1 d1 => ?_
  refine liftP_of mb rep1 h1 fun b e2 u G2 H2 h2 s2 rep2 d2 => ?_
  obtain ⟨x, p1, h3⟩ := dref_pk rep2 (d1.mono s2) h2
  obtain ⟨y, p2, h4⟩ := dref_pk rep2 d2 h3
  refine ok rep2.gh p1 p2 h4 fun o h5 => ⟨o, rfl, ?_⟩
  cases o with
  | true =>
    rw [if_pos rfl] at h5 ⊢
    refine liftP_of mc rep2 h5 fun c e3 w G3 H3 h6 s3 rep3 d3 => ?_
    obtain ⟨y2, p3, h7⟩ := dref_pk rep3 (d2.mono s3) h6
    obtain ⟨z, p4, h8⟩ := dref_pk rep3 d3 h7
    exact ok' rep3.gh p3 p4 h8 fun o' k => q o' e3 G3 H3 k ((s1.trans s2).trans s3) rep3
  | false =>
    rw [if_neg Bool.false_ne_true] at h5 ⊢
    exact q false e2 G2 H2 h5 (s1.trans s2) rep2
end
end Pf
set_option Elab.async false
set_option linter.all false
set_option maxRecDepth 100000
set_option maxHeartbeats 4000000
/-! Pf: tests, subscripts, slices, displays, calls of built-ins. -/
namespace Pf
open PySem PySem.Spec PyProof.Rows L2
section
variable {X : Cx} {op op' : CmpOp} {f f' : B2} {r r' : R2} {a b c : Expr} {ra rb rc : RP} {pos : Pos}
theorem qt_chain (ho : OpR X (compareOp op) r) (ok : f.Ok X.K r) (hf : f.Mono) (ho' : OpR X (compareOp op') r') (ok' : f'.Ok X.K r') (hf' : f'.Mono) (ha : QP X a ra) (hb : QP X b rb) (hc : QP X c rc)
    (hm : lastMarks [op, op'] [b, c] = false := by with_unfolding_all rfl) : QT X (.Compare a [op, op'] [b, c] pos) (rChain f f' ra rb rc) :=
  ⟨rChain_mono hf hf' ha.mono hb.mono hc.mono, pt_imp (pt_chain ho ho' ha.run hb.run hc.run hm) fun σ H Q ⟨env, G, F, rep, h⟩ => tChain_of ok hf ok' hf' ha.mono hb.mono hc.mono rep h fun b e G' H' k s r => ⟨b, rfl, k G' H' s r⟩⟩
theorem qv_chain (ho : OpR X (compareOp op) r) (ok : f.Ok X.K r) (hf : f.Mono) (ho' : OpR X (compareOp op') r') (ok' : f'.Ok X.K r') (hf' : f'.Mono) (ha : QP X a ra) (hb : QP X b rb) (hc : QP X c rc)
    (hm : lastMarks [op, op'] [b, c] = false := by with_unfolding_all rfl) : QV X (.Compare a [op, op'] [b, c] pos) (rTV (rChain f f' ra rb rc)) :=
  ⟨fun env Q Q' g h => rChain_mono hf hf' ha.mono hb.mono hc.mono _ _ _ (fun b e => g _ _) h, pe_imp (pe_chain ho ho' ha.run hb.run hc.run hm) fun σ H Q ⟨env, G, F, rep, h⟩ => tChain_of ok hf ok' hf' ha.mono hb.mono hc.mono rep h fun b e G' H' k s r => k _ G' H' s r (.bl b)⟩
end

/-! ### truth -/
def tb (x : D) (k : Bool → Prop) : Prop := match x with
  | .bool b => k b
  | _ => False
theorem tb.mono {x : D} {k k' : Bool → Prop} (f : ∀ b, k b → k' b) (h : tb x k) : tb x k' := by
  unfold tb at *
  split at h
  · exact f _ h
  · exact h.elim
def rTb (r : RV) : RT := fun env Q => r env fun x e => tb x fun b => Q b e
/-- truth of anything -/
def tru (x : D) (k : Bool → Prop) : Prop := match x with
  | .none => k false
  | .bool b => k b
  | .int i => k (i != 0)
  | .str s => s.length ≤ sizeLine ∧ k ((s.length : Int) != 0)
  | .list xs => k (!xs.isEmpty)
  | .tuple xs => k (!xs.isEmpty)
  | .dict _ => False
theorem tru.mono {x : D} {k k' : Bool → Prop} (f : ∀ b, k b → k' b) (h : tru x k) : tru x k' := by
  unfold tru at *
  split at h
  · exact f _ h
  · exact f _ h
  · exact f _ h
  · exact ⟨h.1, f _ h.2⟩
  · exact f _ h
  · exact f _ h
  · exact h.elim
def rTru (r : RP) : RT := fun env Q => r env fun a e => dref e a fun x => tru x fun b => Q b e
section
variable {X : Cx} {a b : Expr} {pos : Pos}
theorem rps_emp {K : Fg} {G : Hp} {xs : List D} {vs : List V} (h : RpAll K G vs xs) : vs.isEmpty = xs.isEmpty := by
  cases h <;> rfl
theorem qt_val {r : RV} (h : QV X a r) (he : ∀ whole, isTrue a X.env whole = (do let v ← whole; standAt a.pos; holding [v] (truthy v)) := by intro _; rfl) : QT X a (rTb r) := by
  refine ⟨fun env Q Q' f q => h.mono _ _ _ (fun x e => tb.mono fun b => f b e) q, pt_imp (pt_val h.run he) ?_⟩
  intro σ H Q ⟨env, G, F, rep, q⟩
  refine liftV_of h.mono rep q fun x e v G1 H1 h1 s1 rep1 d1 => ?_
  unfold tb at h1
  split at h1
  · cases d1
    exact ⟨_, rfl, h1 G1 H1 s1 rep1⟩
  · exact h1.elim
theorem qt_tru {r : RP} (h : QP X a r) (he : ∀ whole, isTrue a X.env whole = (do let v ← whole; standAt a.pos; holding [v] (truthy v)) := by intro _; rfl) : QT X a (rTru r) := by
  refine ⟨fun env Q Q' f q => h.mono _ _ _ (fun x e => dref.mono fun y => tru.mono fun b => f b e) q, pt_imp (pt_truth h.run he) ?_⟩
  intro σ H Q ⟨env, G, F, rep, q⟩
  refine liftP_of h.mono rep q fun x e v G1 H1 h1 s1 rep1 d1 => ?_
  obtain ⟨y, p1, h2⟩ := dref_pk rep1 d1 h1
  unfold tru at h2
  split at h2
  · rw [p1.non]
    exact ⟨false, rfl, h2 G1 H1 s1 rep1⟩
  · rw [p1.bl]
    exact ⟨_, rfl, h2 G1 H1 s1 rep1⟩
  · rw [p1.int]
    exact ⟨_, rfl, h2 G1 H1 s1 rep1⟩
  · rw [p1.str]
    exact ⟨_, ⟨h2.1, rfl⟩, h2.2 G1 H1 s1 rep1⟩
  · obtain ⟨p, vs, rfl, g1, d2⟩ := p1.lst rep1.gh
    exact ⟨_, .inl ⟨vs, .inl g1, rfl⟩, by rw [rps_emp d2]; exact h2 G1 H1 s1 rep1⟩
  · obtain ⟨p, vs, rfl, g1, d2⟩ := p1.tup
    exact ⟨_, .inr (.inl ⟨vs, (tq_mono rep1.gh g1).sq, rfl⟩), by rw [rps_emp d2]; exact h2 G1 H1 s1 rep1⟩
  · exact h2.elim
def rNot (r : RT) : RT := fun env Q => r env fun b e => Q (!b) e
def rAnd (r r' : RT) : RT := fun env Q => r env fun b e => if b = true then r' e Q else Q false e
def rOr (r r' : RT) : RT := fun env Q => r env fun b e => if b = true then Q true e else r' e Q
theorem ite_mono {c : Prop} [Decidable c] {A B A' B' : Prop} (f : A → A') (g : B → B') (h : if c then A else B) : if c then A' else B' := by
  split at h
  · rename_i hc; rw [if_pos hc]; exact f h
  · rename_i hc; rw [if_neg hc]; exact g h
theorem qt_not {r : RT} (h : QT X a r) : QT X (.UnaryOp .Not a pos) (rNot r) := by
  refine ⟨fun env Q Q' f q => h.mono _ _ _ (fun x e => f _ e) q, pt_imp (pt_not h.run) ?_⟩
  intro σ H Q ⟨env, G, F, rep, q⟩
  exact liftT_of h.mono rep q fun x e G1 H1 h1 s1 rep1 => h1 G1 H1 s1 rep1
theorem qw_and1 {r : RT} (h : QT X a r) : QW X (.BoolOp .And [a] pos) r := ⟨h.mono, pw_and1 h.run⟩
theorem qw_or1 {r : RT} (h : QT X a r) : QW X (.BoolOp .Or [a] pos) r := ⟨h.mono, pw_or1 h.run⟩
theorem qw_and {r r' : RT} {rest : List Expr} (h : QT X a r) (h' : QW X (.BoolOp .And (b :: rest) pos) r') : QW X (.BoolOp .And (a :: b :: rest) pos) (rAnd r r') := by
  refine ⟨fun env Q Q' f q => h.mono _ _ _ (fun x e => ite_mono (h'.mono _ _ _ f) (f _ e)) q, pw_imp (pw_and h.run h'.run) ?_⟩
  intro σ H Q ⟨env, G, F, rep, q⟩
  refine liftT_of h.mono rep q fun x e G1 H1 h1 s1 rep1 => ?_
  refine ite_mono (fun z => ?_) (fun z => ?_) h1
  · exact liftT_of h'.mono rep1 z fun x e G2 H2 h2 s2 rep2 => h2 G2 H2 (s1.trans s2) rep2
  · exact z G1 H1 s1 rep1
theorem qw_or {r r' : RT} {rest : List Expr} (h : QT X a r) (h' : QW X (.BoolOp .Or (b :: rest) pos) r') : QW X (.BoolOp .Or (a :: b :: rest) pos) (rOr r r') := by
  refine ⟨fun env Q Q' f q => h.mono _ _ _ (fun x e => ite_mono (f _ e) (h'.mono _ _ _ f)) q, pw_imp (pw_or h.run h'.run) ?_⟩
  intro σ H Q ⟨env, G, F, rep, q⟩
  refine liftT_of h.mono rep q fun x e G1 H1 h1 s1 rep1 => ?_
  refine ite_mono (fun z => ?_) (fun z => ?_) h1
  · exact z G1 H1 s1 rep1
  · exact liftT_of h'.mono rep1 z fun x e G2 H2 h2 s2 rep2 => h2 G2 H2 (s1.trans s2) rep2
theorem QW.t {r : RT} {e : Expr} (h : QW X e r) : QT X e r := ⟨h.mono, h.run.pt⟩
/-- the same as values: all but the last a truth value -/
def rAndV (r r' : RV) : RV := fun env Q => r env fun x e => tb x fun b => if b = true then r' e Q else Q (.bool false) e
def rOrV (r r' : RV) : RV := fun env Q => r env fun x e => tb x fun b => if b = true then Q (.bool true) e else r' e Q
def rNotV (r : RV) : RV := fun env Q => r env fun x e => tb x fun b => Q (.bool (!b)) e
theorem qv_one {op : BoolOp} {r : RV} (h : QV X a r) : QV X (.BoolOp op [a] pos) r := ⟨h.mono, pe_one h.run⟩
theorem qv_and {r r' : RV} {rest : List Expr} (h : QV X a r) (h' : QV X (.BoolOp .And (b :: rest) pos) r') : QV X (.BoolOp .And (a :: b :: rest) pos) (rAndV r r') := by
  refine ⟨fun env Q Q' f q => h.mono _ _ _ (fun x e => tb.mono fun c => ite_mono (h'.mono _ _ _ f) (f _ e)) q, pe_imp (pe_and h.run h'.run) ?_⟩
  intro σ H Q ⟨env, G, F, rep, q⟩
  refine liftV_of h.mono rep q fun x e v G1 H1 h1 s1 rep1 d1 => ?_
  unfold tb at h1
  split at h1
  · cases d1
    refine ⟨_, rfl, ite_mono (fun z => ?_) (fun z => ?_) h1⟩
    · exact liftV_of h'.mono rep1 z fun x e v G2 H2 h2 s2 rep2 d2 => h2 v G2 H2 (s1.trans s2) rep2 d2
    · exact z _ G1 H1 s1 rep1 (.bl _)
  · exact h1.elim
theorem qv_or {r r' : RV} {rest : List Expr} (h : QV X a r) (h' : QV X (.BoolOp .Or (b :: rest) pos) r') : QV X (.BoolOp .Or (a :: b :: rest) pos) (rOrV r r') := by
  refine ⟨fun env Q Q' f q => h.mono _ _ _ (fun x e => tb.mono fun c => ite_mono (f _ e) (h'.mono _ _ _ f)) q, pe_imp (pe_or h.run h'.run) ?_⟩
  intro σ H Q ⟨env, G, F, rep, q⟩
  refine liftV_of h.mono rep q fun x e v G1 H1 h1 s1 rep1 d1 => ?_
  unfold tb at h1
  split at h1
  · cases d1
    refine ⟨_, rfl, ite_mono (fun z => ?_) (fun z => ?_) h1⟩
    · exact z _ G1 H1 s1 rep1 (.bl _)
    · exact liftV_of h'.mono rep1 z fun x e v G2 H2 h2 s2 rep2 d2 => h2 v G2 H2 (s1.trans s2) rep2 d2
  · exact h1.elim
theorem qv_not {r : RV} (h : QV X a r) : QV X (.UnaryOp .Not a pos) (rNotV r) := by
  refine ⟨fun env Q Q' f q => h.mono _ _ _ (fun x e => tb.mono fun c => f _ e) q, pe_imp (pe_not h.run) ?_⟩
  intro σ H Q ⟨env, G, F, rep, q⟩
  refine liftV_of h.mono rep q fun x e v G1 H1 h1 s1 rep1 d1 => ?_
  unfold tb at h1
  split at h1
  · cases d1
    exact ⟨_, rfl, h1 _ G1 H1 s1 rep1 (.bl _)⟩
  · exact h1.elim
def rIf (t : RT) (r r' : RE) : RE := fun env Q => t env fun b e => if b = true then r e Q else r' e Q
theorem qe_if {t : RT} {r r' : RE} {c : Expr} (hc : QT X c t) (h : QE X a r) (h' : QE X b r') : QE X (.IfExp c a b pos) (rIf t r r') := by
  refine ⟨fun env Q Q' f q => hc.mono _ _ _ (fun x e => ite_mono (h.mono _ _ _ f) (h'.mono _ _ _ f)) q, pe_imp (pe_ifExp hc.run h.run h'.run) ?_⟩
  intro σ H Q ⟨env, G, F, rep, q⟩
  refine liftT_of hc.mono rep q fun x e G1 H1 h1 s1 rep1 => ?_
  refine ite_mono (fun z => ?_) (fun z => ?_) h1
  · exact liftO_of h.mono rep1 z fun x e v G2 H2 h2 s2 rep2 => h2 v G2 H2 (s1.trans s2) rep2
  · exact liftO_of h'.mono rep1 z fun x e v G2 H2 h2 s2 rep2 => h2 v G2 H2 (s1.trans s2) rep2
/-- -x -/
def rNeg (r : RV) : RV := fun env Q => r env fun x e => match x with
  | .int i => Q (.int (-i)) e
  | _ => False
theorem qv_neg {r : RV} (h : QV X a r) : QV X (.UnaryOp .USub a pos) (rNeg r) := by
  refine ⟨fun env Q Q' f q => h.mono _ _ _ (fun x e z => ?_) q, pe_imp (pe_un un_neg h.run) ?_⟩
  · split at z
    · exact f _ _ z
    · exact z
  intro σ H Q ⟨env, G, F, rep, q⟩
  refine liftV_of h.mono rep q fun x e v G1 H1 h1 s1 rep1 d1 => ?_
  split at h1
  · cases d1
    exact ⟨_, rfl, h1 _ G1 H1 s1 rep1 (.int _)⟩
  · exact h1.elim

/-! ### subscripts -/
def rIxA (K : Fg) : R2 := fun x y H Q => rIxL K x y H Q ∨ rIxT K x y H Q ∨ rIxS x y H Q
def dIx : F2 := fun x y k => match x, y with
  | .list xs, .int i => ∃ z, atI xs i = some z ∧ k (.d z)
  | .tuple xs, .int i => ∃ z, atI xs i = some z ∧ k (.d z)
  | .str s, .int i => s.length ≤ sizeLine ∧ ∃ c, atI s.cps.toList i = some c ∧ k (.d (.str ⟨#[c]⟩))
  | _, _ => False
theorem dIx_mono : dIx.Mono := by
  intro x y k k' f h
  unfold dIx at *
  split at h
  · obtain ⟨z, e, h⟩ := h; exact ⟨z, e, f _ h⟩
  · obtain ⟨z, e, h⟩ := h; exact ⟨z, e, f _ h⟩
  · obtain ⟨e0, z, e, h⟩ := h; exact ⟨e0, z, e, f _ h⟩
  · exact h.elim
theorem rps_at {K : Fg} {G : Hp} {xs : List D} {vs : List V} {i : Int} {x : D} (h : RpAll K G vs xs) (e : atI xs i = some x) : ∃ v, atI vs i = some v ∧ Rp K G v x := by
  unfold atI at *
  rw [rps_len h]
  cases ej : ixN xs.length i with
  | none => rw [ej] at e; cases e
  | some j =>
    rw [ej] at e
    exact rps_get h e
theorem dIx_ok {K : Fg} : dIx.Ok K (rIxA K) := by
  intro G F H σ env x y v u k Q rep px py h q
  unfold dIx at h
  split at h
  · obtain ⟨z, e, h⟩ := h
    obtain ⟨p, vs, rfl, h1, d1⟩ := px.lst rep.gh
    obtain ⟨v, e2, d2⟩ := rps_at d1 e
    exact .inl ⟨p, vs, _, v, rfl, py.int, .inl h1, e2, q _ _ G H h (fun _ _ z => z) (.of rep d2)⟩
  · obtain ⟨z, e, h⟩ := h
    obtain ⟨p, vs, rfl, h1, d1⟩ := px.tup
    obtain ⟨v, e2, d2⟩ := rps_at d1 e
    exact .inr (.inl ⟨p, vs, _, v, rfl, py.int, (tq_mono rep.gh h1).sq, e2, q _ _ G H h (fun _ _ z => z) (.of rep d2)⟩)
  · obtain ⟨e0, c, e, h⟩ := h
    exact .inr (.inr ⟨_, _, c, px.str, py.int, e0, e, q _ _ G H h (fun _ _ z => z) (.of rep (.str _))⟩)
  · exact h.elim
theorem qv_ix {ra rb : RP} (ha : QP X a ra) (hb : QP X b rb) (hs : PlainIx b := by exact fun _ _ => rfl) : QV X (.Subscript a b pos) (rD (rOp dIx ra rb)) :=
  QE.v ⟨rOp_mono dIx_mono ha.mono hb.mono, pe_imp (pe_ix (IxR.or ix_list (IxR.or ix_tup ix_str)) ha.run hb.run hs) (tOp_of dIx_ok dIx_mono ha.mono hb.mono)⟩
end

/-! ### slices -/
abbrev RO := Env → (Option Int → Env → Prop) → Prop
def liftI (K : Fg) (r : RO) : TO := fun σ H Q => ∃ env G F, Rep K G F H σ env ∧ r env fun b env' => ∀ G' H', Same G G' → Rep K G' F H' σ env' → Q b H'
structure QI (X : Cx) (e : Option Expr) (r : RO) : Prop where
  mono : MonoK r
  run : PO X e (liftI X.K r)
def rNoI : RO := fun env Q => Q none env
def rSoI (r : RV) : RO := fun env Q => r env fun x e => match x with
  | .int i => Q (some i) e
  | _ => False
theorem po_imp {X : Cx} {e : Option Expr} {t t' : TO} (h : PO X e t) (f : ∀ σ H Q, t' σ H Q → t σ H Q) : PO X e t' := ⟨fun pins s σ H Q I q => h.run pins s σ H Q I (f σ H Q q)⟩
theorem liftI_of {K : Fg} {G F H : Hp} {σ : L2.St} {env : Env} {r : RO} {Q : Option Int → Hp → Prop} {Q0 : Option Int → Env → Prop} (m : MonoK r) (rep : Rep K G F H σ env) (h : r env Q0)
    (f : ∀ x env' G' H', Q0 x env' → Same G G' → Rep K G' F H' σ env' → Q x H') : liftI K r σ H Q := ⟨env, G, F, rep, m _ _ _ (fun x e q G' H' s r => f x e G' H' q s r) h⟩
theorem qi_none {X : Cx} : QI X none rNoI := ⟨fun env Q Q' f h => f _ _ h, po_imp po_none fun σ H Q ⟨env, G, F, rep, h⟩ => h G H (fun _ _ z => z) rep⟩
theorem qi_some {X : Cx} {e : Expr} {r : RV} (h : QV X e r) : QI X (some e) (rSoI r) := by
  refine ⟨fun env Q Q' f q => h.mono _ _ _ (fun x e z => ?_) q, po_imp (po_some h.run) ?_⟩
  · split at z
    · exact f _ _ z
    · exact z
  intro σ H Q ⟨env, G, F, rep, q⟩
  refine liftV_of h.mono rep q fun x e v G1 H1 h1 s1 rep1 d1 => ?_
  split at h1
  · cases d1
    exact ⟨_, rfl, h1 G1 H1 s1 rep1⟩
  · exact h1.elim
def cut {α : Type} (xs : List α) (lo hi : Option Int) : List α := (xs.drop (HT.sIx xs.length 0 lo)).take (HT.sIx xs.length xs.length hi - HT.sIx xs.length 0 lo)
theorem rps_cut {K : Fg} {G : Hp} {xs : List D} {vs : List V} (h : RpAll K G vs xs) (lo hi : Option Int) : RpAll K G (cutV vs lo hi) (cut xs lo hi) := by
  unfold cutV cut
  rw [rps_len h]
  exact rps_take _ (rps_drop _ h)
abbrev F3 := D → Option Int → Option Int → (O → Prop) → Prop
def dSl : F3 := fun x lo hi k => match x with
  | .list xs => k (.own (cut xs lo hi))
  | .tuple xs => k (.d (.tuple (cut xs lo hi)))
  | .str s => s.length ≤ sizeLine ∧ k (.d (.str (cutS s lo hi)))
  | _ => False
theorem cut_whole {α : Type} {xs : List α} {lo hi : Option Int} (h : HT.sIx xs.length 0 lo = 0 ∧ HT.sIx xs.length xs.length hi = xs.length) : cut xs lo hi = xs := by
  unfold cut
  rw [h.1, h.2, List.drop_zero, Nat.sub_zero, List.take_length]
def rSl (ra : RP) (rl rh : RO) : RE := fun env Q => ra env fun a e1 => rl e1 fun lo e2 => rh e2 fun hi e3 => dref e3 a fun x => dSl x lo hi fun o => Q o e3
theorem dSl_mono {x : D} {lo hi : Option Int} {k k' : O → Prop} (f : ∀ o, k o → k' o) (h : dSl x lo hi k) : dSl x lo hi k' := by
  unfold dSl at *
  split at h
  · exact f _ h
  · exact f _ h
  · exact ⟨h.1, f _ h.2⟩
  · exact h.elim
theorem qe_slice {X : Cx} {a : Expr} {lo hi : Option Expr} {pos p2 : Pos} {ra : RP} {rl rh : RO} (ha : QP X a ra) (hl : QI X lo rl) (hh : QI X hi rh) : QE X (.Subscript a (.Slice lo hi none p2) pos) (rSl ra rl rh) := by
  refine ⟨fun env Q Q' f q => ha.mono _ _ _ (fun a e z => hl.mono _ _ _ (fun l e z => hh.mono _ _ _ (fun h e z => dref.mono (fun x => dSl_mono fun o => f o e) z) z) z) q, pe_imp (pe_slice (SlR.or sl_list (SlR.or sl_tupF sl_str)) ha.run hl.run hh.run) ?_⟩
  intro σ H Q ⟨env, G, F, rep, q⟩
  refine liftP_of ha.mono rep q fun a e v G1 H1 h1 s1 rep1 d1 => ?_
  refine liftI_of hl.mono rep1 h1 fun l e2 G2 H2 h2 s2 rep2 => ?_
  refine liftI_of hh.mono rep2 h2 fun u e3 G3 H3 h3 s3 rep3 => ?_
  obtain ⟨x, p1, h4⟩ := dref_pk rep3 (d1.mono (s2.trans s3)) h3
  have ss := (s1.trans s2).trans s3
  unfold dSl at h4
  split at h4
  · obtain ⟨p, vs, rfl, g1, d1⟩ := p1.lst rep3.gh
    exact .inl ⟨p, vs, rfl, .inl g1, fun q hq => h4 _ G3 _ ss (rep3.lst hq (rps_cut d1 l u))⟩
  · obtain ⟨p, vs, rfl, g1, d1⟩ := p1.tup
    refine .inr (.inl ⟨p, vs, rfl, (tq_mono rep3.gh g1).sq, fun hw => ?_, fun hw q o ho hq => ?_⟩)
    · refine h4 _ G3 H3 ss (.of rep3 ?_)
      rw [cut_whole (by rw [← rps_len d1]; exact hw)]
      exact .tup g1 d1
    · have r2 := rep3.tup hq ho (rps_cut d1 l u)
      exact h4 _ _ _ (ss.trans r2.1) r2.2
  · exact .inr (.inr ⟨_, p1.str, h4.1, h4.2 _ G3 H3 ss (.of rep3 (.str _))⟩)
  · exact h4.elim

/-! ### displays -/
abbrev RL := Env → (List D → Env → Prop) → Prop
def liftL (K : Fg) (r : RL) : TA := fun σ H Q => ∃ env G F, Rep K G F H σ env ∧ r env fun xs env' => ∀ vs G' H', Same G G' → Rep K G' F H' σ env' → RpAll K G' vs xs → Q vs H'
structure QL (X : Cx) (es : List Expr) (r : RL) : Prop where
  mono : MonoK r
  run : PA X es (liftL X.K r)
theorem liftL_of {K : Fg} {G F H : Hp} {σ : L2.St} {env : Env} {r : RL} {Q : List V → Hp → Prop} {Q0 : List D → Env → Prop} (m : MonoK r) (rep : Rep K G F H σ env) (h : r env Q0)
    (f : ∀ x env' v G' H', Q0 x env' → Same G G' → Rep K G' F H' σ env' → RpAll K G' v x → Q v H') : liftL K r σ H Q := ⟨env, G, F, rep, m _ _ _ (fun x e q v G' H' s r d => f x e v G' H' q s r d) h⟩
def rNil : RL := fun env Q => Q [] env
def rCons (ra : RV) (rs : RL) : RL := fun env Q => ra env fun x e1 => rs e1 fun xs e2 => Q (x :: xs) e2
section
variable {X : Cx} {a : Expr} {es : List Expr} {pos : Pos}
theorem ql_nil : QL X [] rNil := ⟨fun env Q Q' f h => f _ _ h, pa_imp pa_nil fun σ H Q ⟨env, G, F, rep, h⟩ => h [] G H (fun _ _ z => z) rep .nil⟩
theorem ql_cons {ra : RV} {rs : RL} (ha : QV X a ra) (hs : QL X es rs) (he : starEach (a :: es) X.env = (false, eval a X.env) :: starEach es X.env := by rfl) : QL X (a :: es) (rCons ra rs) := by
  refine ⟨fun env Q Q' f q => ha.mono _ _ _ (fun x e z => hs.mono _ _ _ (fun xs e => f _ e) z) q, pa_imp (pa_cons ha.run hs.run he) ?_⟩
  intro σ H Q ⟨env, G, F, rep, q⟩
  refine liftV_of ha.mono rep q fun x e v G1 H1 h1 s1 rep1 d1 => ?_
  exact liftL_of hs.mono rep1 h1 fun xs e2 vs G2 H2 h2 s2 rep2 d2 => h2 _ G2 H2 (s1.trans s2) rep2 (.cons (rp_mono s2 x d1) d2)
def rTup (r : RL) : RV := fun env Q => r env fun xs e => xs.length ≤ sizeLine ∧ Q (.tuple xs) e
def rLst (r : RL) : RE := fun env Q => r env fun xs e => xs.length ≤ sizeLine ∧ Q (.own xs) e
theorem RepV.dd {K : Fg} {G F H : Hp} {σ : L2.St} {env : Env} {v : V} {x : D} (h : RepV K G F H σ env v (.d x)) : Rep K G F H σ env ∧ Rp K G v x := by
  obtain ⟨fp, fpv, sl, ⟨d, rfl⟩, w⟩ := h
  exact ⟨⟨fp, sl, w⟩, d⟩
theorem qv_tup {r : RL} {x1 : Nat} (h : QL X es r) : QV X (.Tuple es x1 pos) (rTup r) := by
  refine ⟨fun env Q Q' f q => h.mono _ _ _ (fun x e z => ⟨z.1, f _ _ z.2⟩) q, pe_imp (pe_tupF h.run) ?_⟩
  intro σ H Q ⟨env, G, F, rep, q⟩
  refine liftL_of h.mono rep q fun xs e vs G1 H1 h1 s1 rep1 d1 => ⟨by rw [rps_len d1]; exact h1.1, fun p o ho hp => ?_⟩
  obtain ⟨s2, r2⟩ := rep1.tup hp ho d1
  exact h1.2 _ _ _ (s1.trans s2) r2.dd.1 r2.dd.2
theorem qe_lst {r : RL} (h : QL X es r) : QE X (.List es pos) (rLst r) := by
  refine ⟨fun env Q Q' f q => h.mono _ _ _ (fun x e z => ⟨z.1, f _ _ z.2⟩) q, pe_imp (pe_lst h.run) ?_⟩
  intro σ H Q ⟨env, G, F, rep, q⟩
  refine liftL_of h.mono rep q fun xs e vs G1 H1 h1 s1 rep1 d1 => ⟨by rw [rps_len d1]; exact h1.1, fun p hp => ?_⟩
  exact h1.2 _ _ _ s1 (rep1.lst hp d1)
end
end Pf
set_option Elab.async false
set_option linter.all false
set_option maxRecDepth 100000
set_option maxHeartbeats 4000000
/-! Pf: calls of built-ins. -/
namespace Pf
open PySem PySem.Spec PyProof.Rows L2

/-! ### argument lists -/
def rANil : RA := fun env Q => Q [] env
def rACons (ra : RP) (rs : RA) : RA := fun env Q => ra env fun x e1 => rs e1 fun xs e2 => Q (x :: xs) e2
section
variable {X : Cx} {a : Expr} {es : List Expr} {pos : Pos}
theorem qa_nil : QA X [] rANil := ⟨fun env Q Q' f h => f _ _ h, pa_imp pa_nil fun σ H Q ⟨env, G, F, rep, h⟩ => h [] G H (fun _ _ z => z) rep .nil⟩
theorem qa_cons {ra : RP} {rs : RA} (ha : QP X a ra) (hs : QA X es rs) (he : starEach (a :: es) X.env = (false, eval a X.env) :: starEach es X.env := by rfl) : QA X (a :: es) (rACons ra rs) := by
  refine ⟨fun env Q Q' f q => ha.mono _ _ _ (fun x e z => hs.mono _ _ _ (fun xs e => f _ e) z) q, pa_imp (pa_cons ha.run hs.run he) ?_⟩
  intro σ H Q ⟨env, G, F, rep, q⟩
  refine liftP_of ha.mono rep q fun x e v G1 H1 h1 s1 rep1 d1 => ?_
  exact liftA_of hs.mono rep1 h1 fun xs e2 vs G2 H2 h2 s2 rep2 d2 => h2 _ G2 H2 (s1.trans s2) rep2 (.cons (d1.mono s2) d2)
end
def drefs (e : Env) : List Arg → (List D → Prop) → Prop
  | [], k => k []
  | a :: as, k => dref e a fun x => drefs e as fun xs => k (x :: xs)
theorem drefs.mono {e : Env} : ∀ {as : List Arg} {k k' : List D → Prop}, (∀ x, k x → k' x) → drefs e as k → drefs e as k'
  | [], _, _, f, h => f _ h
  | _ :: _, _, _, f, h => dref.mono (fun x => drefs.mono fun xs => f _) h
inductive Pks (K : Fg) (G H : Hp) : List V → List D → Prop
  | nil : Pks K G H [] []
  | cons {v : V} {x : D} {vs : List V} {xs : List D} : Pk K G H v x → Pks K G H vs xs → Pks K G H (v :: vs) (x :: xs)
theorem drefs_pk {K : Fg} {G F H : Hp} {σ : L2.St} {env : Env} (r : Rep K G F H σ env) : ∀ {as : List Arg} {vs : List V} {k : List D → Prop}, ArgsRep K G σ vs as → drefs env as k → ∃ xs, Pks K G H vs xs ∧ k xs
  | _, _, _, .nil, h => ⟨[], .nil, h⟩
  | _, _, _, .cons a t, h => by
    obtain ⟨x, p, h1⟩ := dref_pk r a h
    obtain ⟨xs, ps, h2⟩ := drefs_pk r t h1
    exact ⟨x :: xs, .cons p ps, h2⟩

/-- a function of data: what it asks, what it gives -/
abbrev FN := List D → (O → Prop) → Prop
def FN.Mono (f : FN) : Prop := ∀ xs (k k' : O → Prop), (∀ o, k o → k' o) → f xs k → f xs k'
def FN.Ok (K : Fg) (f : FN) (r : List V → Hp → VK → Prop) : Prop := ∀ {G F H : Hp} {σ : L2.St} {env : Env} {xs : List D} {vs : List V} {k : O → Prop} {Q : VK}, Rep K G F H σ env → Pks K G H vs xs → f xs k →
  (∀ o w G' H', k o → Same G G' → RepV K G' F H' σ env w o → Q w H') → r vs H Q
def rCB (f : FN) (ra : RA) : RE := fun env Q => ra env fun as e => drefs e as fun xs => f xs fun o => Q o e
theorem rCB_mono {f : FN} {ra : RA} (hf : f.Mono) (ma : MonoK ra) : MonoK (rCB f ra) := fun env Q Q' g h => ma _ _ _ (fun as e z => drefs.mono (fun xs => hf _ _ _ fun o => g o e) z) h
theorem tCB_of {K : Fg} {f : FN} {r : List V → Hp → VK → Prop} {ra : RA} (ok : f.Ok K r) (ma : MonoK ra) (σ : L2.St) (H : Hp) (Q : VK) (h : liftO K (rCB f ra) σ H Q) : tCB r (liftA K ra) σ H Q := by
  obtain ⟨env, G, F, rep, h⟩ := h
  refine liftA_of ma rep h fun as e vs G1 H1 h1 s1 rep1 d1 => ?_
  obtain ⟨xs, ps, h2⟩ := drefs_pk rep1 d1 h1
  exact ok rep1 ps h2 fun o w G' H' k s r => k w G' H' (s1.trans s) r
section
variable {X : Cx} {e : Expr} {es : List Expr} {x : Str} {p pos : Pos} {f : FN} {ra : RA} {r : List V → Hp → VK → Prop} {id T : String}
theorem qe_callB (hc : CallR X (.builtin id) r) (ok : f.Ok X.K r) (mo : f.Mono) (hm : X.mg x = none) (ha : QA X (e :: es) ra) (hv : bootBuiltins x = some (.builtin id) := by decide +kernel) (hg : Gl X x := by rfl) (hn : x ≠ "__name__" := by decide) (hdb : (x == ("__debug__" : Str)) = false := by decide)
    (he : starEach (e :: es) X.env = (false, eval e X.env) :: starEach es X.env := by rfl) (hpl : (backTo pos (starEach es X.env)).any (·.1) = false := by rfl) : QE X (.Call (.Name x p) (e :: es) [] pos) (rCB f ra) :=
  ⟨rCB_mono mo ha.mono, pe_imp (pe_callB hc hg hm hv ha.run hn hdb he hpl) (tCB_of ok ha.mono)⟩
theorem qe_callTy (hc : CallR X (.type T) r) (ok : f.Ok X.K r) (mo : f.Mono) (hm : X.mg x = none) (ha : QA X (e :: es) ra) (hv : bootBuiltins x = some (.type T) := by decide +kernel) (hg : Gl X x := by rfl) (hn : x ≠ "__name__" := by decide) (hdb : (x == ("__debug__" : Str)) = false := by decide)
    (he : starEach (e :: es) X.env = (false, eval e X.env) :: starEach es X.env := by rfl) (hpl : (backTo pos (starEach es X.env)).any (·.1) = false := by rfl) : QE X (.Call (.Name x p) (e :: es) [] pos) (rCB f ra) :=
  ⟨rCB_mono mo ha.mono, pe_imp (pe_callTy hc hg hm hv ha.run hn hdb he hpl) (tCB_of ok ha.mono)⟩
theorem qe_callM (hc : CallR X (.builtin id) r) (ok : f.Ok X.K r) (mo : f.Mono) (hm : X.mg x = some (.builtin id)) (ha : QA X (e :: es) ra) (hg : Gl X x := by rfl) (hdb : (x == ("__debug__" : Str)) = false := by decide)
    (he : starEach (e :: es) X.env = (false, eval e X.env) :: starEach es X.env := by rfl) (hpl : (backTo pos (starEach es X.env)).any (·.1) = false := by rfl) : QE X (.Call (.Name x p) (e :: es) [] pos) (rCB f ra) :=
  ⟨rCB_mono mo ha.mono, pe_imp (pe_callBfun hc hg hm ha.run hdb he hpl) (tCB_of ok ha.mono)⟩
end
theorem Pks.one {K : Fg} {G H : Hp} {vs : List V} {x : D} (h : Pks K G H vs [x]) : ∃ v, vs = [v] ∧ Pk K G H v x := by
  cases h with
  | cons a t => cases t; exact ⟨_, rfl, a⟩
theorem Pks.two {K : Fg} {G H : Hp} {vs : List V} {x y : D} (h : Pks K G H vs [x, y]) : ∃ v u, vs = [v, u] ∧ Pk K G H v x ∧ Pk K G H u y := by
  cases h with
  | cons a t =>
    obtain ⟨u, rfl, b⟩ := t.one
    exact ⟨_, u, rfl, a, b⟩
theorem idS {G : Hp} : Same G G := fun _ _ z => z
theorem CallR.or {X : Cx} {f : Value} {r r' : List V → Hp → VK → Prop} (h : CallR X f r) (h' : CallR X f r') : CallR X f (fun vs H Q => r vs H Q ∨ r' vs H Q) := by
  intro pins s σ H vs us Q I rv q
  rcases q with q | q
  · exact h pins s σ H vs us Q I rv q
  · exact h' pins s σ H vs us Q I rv q

/-! ### len, int, abs -/
def fLen : FN := fun xs k => match xs with
  | [.list ys] => k (.d (.int ys.length))
  | [.tuple ys] => k (.d (.int ys.length))
  | [.str s] => s.length ≤ sizeLine ∧ k (.d (.int s.length))
  | _ => False
theorem fLen_mono : fLen.Mono := by
  intro xs k k' f h
  unfold fLen at *
  split at h
  · exact f _ h
  · exact f _ h
  · exact ⟨h.1, f _ h.2⟩
  · exact h.elim
theorem fLen_ok {K : Fg} : fLen.Ok K (fun xs H Q => ∃ x n, xs = [x] ∧ LenV K x H n ∧ Q (.int n) H) := by
  intro G F H σ env xs vs k Q rep ps h q
  unfold fLen at h
  split at h
  · obtain ⟨v, rfl, p⟩ := ps.one
    obtain ⟨a, ws, rfl, h1, d1⟩ := p.lst rep.gh
    exact ⟨_, _, rfl, .inl ⟨ws, .inl h1, rfl⟩, by rw [rps_len d1]; exact q _ _ G H h idS (.of rep (.int _))⟩
  · obtain ⟨v, rfl, p⟩ := ps.one
    obtain ⟨a, ws, rfl, h1, d1⟩ := p.tup
    exact ⟨_, _, rfl, .inr ⟨ws, (tq_mono rep.gh h1).sq, rfl⟩, by rw [rps_len d1]; exact q _ _ G H h idS (.of rep (.int _))⟩
  · obtain ⟨v, rfl, p⟩ := ps.one
    rw [p.str]
    exact ⟨_, _, rfl, ⟨h.1, rfl⟩, q _ _ G H h.2 idS (.of rep (.int _))⟩
  · exact h.elim
def fInt : FN := fun xs k => match xs with
  | [.int i] => k (.d (.int i))
  | [.bool b] => k (.d (.int (if b then 1 else 0)))
  | _ => False
theorem fInt_mono : fInt.Mono := by
  intro xs k k' f h
  unfold fInt at *
  split at h
  · exact f _ h
  · exact f _ h
  · exact h.elim
theorem fInt_ok {K : Fg} : fInt.Ok K (fun xs H Q => (∃ i, xs = [.int i] ∧ Q (.int i) H) ∨ ∃ k, xs = [.bl k] ∧ Q (.int (if k then 1 else 0)) H) := by
  intro G F H σ env xs vs k Q rep ps h q
  unfold fInt at h
  split at h
  · obtain ⟨v, rfl, p⟩ := ps.one
    rw [p.int]
    exact .inl ⟨_, rfl, q _ _ G H h idS (.of rep (.int _))⟩
  · obtain ⟨v, rfl, p⟩ := ps.one
    rw [p.bl]
    exact .inr ⟨_, rfl, q _ _ G H h idS (.of rep (.int _))⟩
  · exact h.elim
/-- one int to an int -/
def fI1 (C : Int → Prop) (g : Int → Int) : FN := fun xs k => match xs with
  | [.int i] => C i ∧ k (.d (.int (g i)))
  | _ => False
theorem fI1_mono {C : Int → Prop} {g : Int → Int} : (fI1 C g).Mono := by
  intro xs k k' f h
  unfold fI1 at *
  split at h
  · exact ⟨h.1, f _ h.2⟩
  · exact h.elim
theorem fAbs_ok {K : Fg} : (fI1 (fun _ => True) fun i => if i < 0 then -i else i).Ok K (fun xs H Q => ∃ i, xs = [.int i] ∧ Q (.int (if i < 0 then -i else i)) H) := by
  intro G F H σ env xs vs k Q rep ps h q
  unfold fI1 at h
  split at h
  · obtain ⟨v, rfl, p⟩ := ps.one
    rw [p.int]
    exact ⟨_, rfl, q _ _ G H h.2 idS (.of rep (.int _))⟩
  · exact h.elim
/-- two ints to an int -/
def fI2 (C : Int → Int → Prop) (g : Int → Int → Int) : FN := fun xs k => match xs with
  | [.int i, .int j] => C i j ∧ k (.d (.int (g i j)))
  | _ => False
theorem fI2_mono {C : Int → Int → Prop} {g : Int → Int → Int} : (fI2 C g).Mono := by
  intro xs k k' f h
  unfold fI2 at *
  split at h
  · exact ⟨h.1, f _ h.2⟩
  · exact h.elim
theorem fI2_ok {K : Fg} {C : Int → Int → Prop} {g : Int → Int → Int} : (fI2 C g).Ok K (fun xs H Q => ∃ i j, xs = [.int i, .int j] ∧ C i j ∧ Q (.int (g i j)) H) := by
  intro G F H σ env xs vs k Q rep ps h q
  unfold fI2 at h
  split at h
  · obtain ⟨v, u, rfl, p, p'⟩ := ps.two
    rw [p.int, p'.int]
    exact ⟨_, _, rfl, h.1, q _ _ G H h.2 idS (.of rep (.int _))⟩
  · exact h.elim
theorem CallR.imp {X : Cx} {f : Value} {r r' : List V → Hp → VK → Prop} (h : CallR X f r) (g : ∀ vs H Q, r' vs H Q → r vs H Q) : CallR X f r' := fun pins s σ H vs us Q I rv q => h pins s σ H vs us Q I rv (g _ _ _ q)
def fMax2 : FN := fI2 (fun _ _ => True) fun i j => if j > i then j else i
def fMin2 : FN := fI2 (fun _ _ => True) fun i j => if j < i then j else i
def fGcd : FN := fI2 (fun _ _ => True) fun a b => ((Nat.gcd a.natAbs b.natAbs : Nat) : Int)
def CLcm (a b : Int) : Prop := a.natAbs.log2 < 13000 ∧ b.natAbs.log2 < 13000
def fLcm : FN := fI2 CLcm fun a b => ((Nat.lcm a.natAbs b.natAbs : Nat) : Int)
theorem log2_lt_of_lt {n k : Nat} (h : n < 2 ^ k) (hk : 0 < k) : n.log2 < k := PySem.Flt.log2_lt_of hk h
theorem cr_lcm {X : Cx} : CallR X (.builtin "math.lcm") (fun xs H Q => ∃ i j, xs = [.int i, .int j] ∧ CLcm i j ∧ Q (.int ((Nat.lcm i.natAbs j.natAbs : Nat) : Int)) H) := by
  intro pins s σ H vs us Q I r h
  obtain ⟨a, b, rfl, ⟨ha, hb⟩, q⟩ := h
  obtain ⟨t, u, rfl⟩ := Vals.int2 r
  have lt : ∀ n : Nat, n.log2 < 13000 → n < 2 ^ 13000 := fun n h => by
    by_cases h0 : n = 0
    · rw [h0]; exact Nat.two_pow_pos _
    · exact (Nat.log2_lt h0).mp h
  have h1 : (max 1 a.natAbs).log2 < 13000 := log2_lt_of_lt (by rw [Nat.max_lt]; exact ⟨Nat.one_lt_two_pow (by decide), lt _ ha⟩) (by decide)
  have h2 : (max a.natAbs b.natAbs).log2 < 13000 := log2_lt_of_lt (by rw [Nat.max_lt]; exact ⟨lt _ ha, lt _ hb⟩) (by decide)
  have h3 : (((Nat.lcm 1 a.natAbs).lcm b.natAbs : Nat) : Int).natAbs.log2 < bitsLine := by
    rw [Int.natAbs_natCast, PySem.W.mc_lcm_one]
    have h4 : a.natAbs.lcm b.natAbs < 2 ^ 26000 := by
      refine Nat.lt_of_le_of_lt (PySem.W.mc_lcm_le _ _) ?_
      rw [show (26000 : Nat) = 13000 + 13000 from rfl, Nat.pow_add]
      exact Nat.mul_lt_mul'' (lt _ ha) (lt _ hb)
    exact Nat.lt_of_lt_of_le (log2_lt_of_lt h4 (by decide)) (by decide)
  refine PySem.call_function_meets PySem.W.MGF.kind_lcm PySem.W.MGF.plain_lcm PySem.W.MGF.entry_lcm (PySem.W.MGF.args_lcm _ _) (PySem.W.mg_run_lcm a t b u (by omega) (by omega) h3).meets ?_
  rw [PySem.W.mc_lcm_one]
  exact ⟨.int _, H, I.tok _, ⟨_, rfl⟩, q⟩
end Pf
namespace Pf
open PySem PySem.Spec PyProof.Rows L2
theorem Pks.lists {K : Fg} {G H : Hp} {vs : List V} {ys : List D} (h : Pks K G H vs [.list ys]) (s : Same G H) : ∃ p ws, vs = [.ref p] ∧ Rd H p (.lst ws) ∧ RpAll K G ws ys := by
  obtain ⟨v, rfl, p⟩ := h.one
  obtain ⟨a, ws, rfl, h1, d1⟩ := p.lst s
  exact ⟨a, ws, rfl, h1, d1⟩
/-! ### tuple(..), list(..) -/
def fTuple : FN := fun xs k => match xs with
  | [.list ys] => k (.d (.tuple ys))
  | [.tuple ys] => k (.d (.tuple ys))
  | _ => False
theorem fTuple_mono : fTuple.Mono := by
  intro xs k k' f h
  unfold fTuple at *
  split at h
  · exact f _ h
  · exact f _ h
  · exact h.elim
theorem fTuple_ok {K : Fg} : fTuple.Ok K (fun xs H Q => ∃ p ys, xs = [.ref p] ∧ ((SqL K H p ys ∧ ∀ l o, o.dict = none → H l = none → Q (.ref l) (upd H l (.frz o (.tup ys)))) ∨ (SqT K H p ys ∧ Q (.ref p) H))) := by
  intro G F H σ env xs vs k Q rep ps h q
  unfold fTuple at h
  split at h
  · obtain ⟨a, ws, rfl, h1, d1⟩ := ps.lists rep.gh
    refine ⟨a, ws, rfl, .inl ⟨.inl h1, fun l o ho hl => ?_⟩⟩
    have r2 := rep.tup hl ho d1
    exact q _ _ _ _ h r2.1 r2.2
  · obtain ⟨v, rfl, p⟩ := ps.one
    obtain ⟨a, ws, rfl, h1, d1⟩ := p.tup
    exact ⟨a, ws, rfl, .inr ⟨(tq_mono rep.gh h1).sq, q _ _ G H h idS (.of rep (.tup h1 d1))⟩⟩
  · exact h.elim
def fList : FN := fun xs k => match xs with
  | [.list ys] => k (.own ys)
  | [.tuple ys] => k (.own ys)
  | [.str s] => s.length ≤ sizeLine ∧ k (.own (s.cps.toList.map fun c => .str ⟨#[c]⟩))
  | _ => False
theorem fList_mono : fList.Mono := by
  intro xs k k' f h
  unfold fList at *
  split at h
  · exact f _ h
  · exact f _ h
  · exact ⟨h.1, f _ h.2⟩
  · exact h.elim
/-- list(text) -/
def rListS : List V → Hp → VK → Prop := fun xs H Q => ∃ s : Str, xs = [.str s] ∧ s.length ≤ sizeLine ∧ ∀ l, H l = none → Q (.ref l) (upd H l (.lst (s.cps.toList.map fun c => V.str ⟨#[c]⟩)))
theorem signs_vals {z : Str} : ∀ (cs : List Nat) (us : List Value), us.length = cs.length → (∀ (j : Nat) (u : Value), us[j]? = some u → ∃ (c : Nat) (t : Tok), cs[j]? = some c ∧ u = .str ⟨#[c]⟩ t) → Vals (cs.map fun c => V.str ⟨#[c]⟩) us
  | [], [], _, _ => .nil
  | [], _ :: _, h, _ => by simp at h
  | _ :: _, [], h, _ => by simp at h
  | c :: cs, u :: us, h, f => by
    obtain ⟨c', t, e1, e2⟩ := f 0 u rfl
    simp at e1
    subst e1
    exact .cons ⟨t, e2⟩ (signs_vals (z := z) cs us (by simpa using h) fun j u hj => f (j + 1) u (by simpa using hj))
theorem cr_listS {X : Cx} (hc : X.calm = true) : CallR X (.type "list") rListS := by
  intro pins s σ H vs us Q I r h
  obtain ⟨z, rfl, hz, q⟩ := h
  obtain ⟨u, rfl, t, rfl⟩ := vals1 r
  refine PySem.call_list_str (I.ok.hd hc) z t (fun h' tk acc' c' hk e' hi => ?_) hz
  have hv : Vals (z.cps.toList.map fun c => V.str ⟨#[c]⟩) acc'.toList := by
    refine signs_vals (z := z) _ _ (by rw [Array.length_toList, Array.length_toList]; exact hi.1) fun j u hj => ?_
    obtain ⟨c, t, h1, h2⟩ := hi.2 j u (by rw [← hj, Array.getElem?_toList])
    exact ⟨c, t, by rw [Array.getElem?_toList]; exact h1, h2⟩
  refine ⟨.ref s.heap.objs.size, upd H s.heap.objs.size (.lst (z.cps.toList.map fun c => V.str ⟨#[c]⟩)), I.laid hk (Nat.le_refl _) (show ObjOk X.prog X.w _ _ _ (.lst _) from ⟨?_, acc'.toList, c', hv, ?_⟩), rfl, q _ (I.hok.fresh (Nat.le_refl _))⟩
  · rw [List.length_map, Array.length_toList]; exact hz
  · rw [Array.toArray_toList]; exact e'
theorem rps_signs {K : Fg} {G : Hp} : ∀ cs : List Nat, RpAll K G (cs.map fun c => V.str ⟨#[c]⟩) (cs.map fun c => PyData.str ⟨#[c]⟩)
  | [] => .nil
  | c :: cs => .cons (.str _) (rps_signs cs)
theorem fList_ok {K : Fg} : fList.Ok K (fun xs H Q => (∃ p ys, xs = [.ref p] ∧ (SqL K H p ys ∨ SqT K H p ys) ∧ ∀ l, H l = none → Q (.ref l) (upd H l (.lst ys))) ∨ rListS xs H Q) := by
  intro G F H σ env xs vs k Q rep ps h q
  unfold fList at h
  split at h
  · obtain ⟨a, ws, rfl, h1, d1⟩ := ps.lists rep.gh
    exact .inl ⟨a, ws, rfl, .inl (.inl h1), fun l hl => q _ _ G _ h idS (rep.lst hl d1)⟩
  · obtain ⟨v, rfl, p⟩ := ps.one
    obtain ⟨a, ws, rfl, h1, d1⟩ := p.tup
    exact .inl ⟨a, ws, rfl, .inr ((tq_mono rep.gh h1).sq), fun l hl => q _ _ G _ h idS (rep.lst hl d1)⟩
  · obtain ⟨v, rfl, p⟩ := ps.one
    rw [p.str]
    exact .inr ⟨_, rfl, h.1, fun l hl => q _ _ G _ h.2 idS (rep.lst hl (rps_signs _))⟩
  · exact h.elim
/-! ### sum, max, min, all, any, sorted -/
def intsOf : List D → Option (List Int)
  | [] => some []
  | .int i :: xs => (intsOf xs).map (i :: ·)
  | _ => none
def boolsOf : List D → Option (List Bool)
  | [] => some []
  | .bool i :: xs => (boolsOf xs).map (i :: ·)
  | _ => none
def strsOf : List D → Option (List Str)
  | [] => some []
  | .str i :: xs => (strsOf xs).map (i :: ·)
  | _ => none
theorem rps_intsOf {K : Fg} {G : Hp} : ∀ {xs : List D} {vs : List V} {ns : List Int}, RpAll K G vs xs → intsOf xs = some ns → vs = ns.map V.int
  | [], _, ns, .nil, e => by
    cases e
    rfl
  | x :: xs, _, ns, .cons h t, e => by
    cases h with
    | int i =>
      obtain ⟨ms, e1, e2⟩ := Option.map_eq_some_iff.mp (show (intsOf xs).map (i :: ·) = some ns from e)
      subst e2
      rw [rps_intsOf t e1]
      rfl
    | _ => cases e
theorem rps_boolsOf {K : Fg} {G : Hp} : ∀ {xs : List D} {vs : List V} {ns : List Bool}, RpAll K G vs xs → boolsOf xs = some ns → vs = ns.map V.bl
  | [], _, ns, .nil, e => by
    cases e
    rfl
  | x :: xs, _, ns, .cons h t, e => by
    cases h with
    | bl i =>
      obtain ⟨ms, e1, e2⟩ := Option.map_eq_some_iff.mp (show (boolsOf xs).map (i :: ·) = some ns from e)
      subst e2
      rw [rps_boolsOf t e1]
      rfl
    | _ => cases e
theorem rps_strsOf {K : Fg} {G : Hp} : ∀ {xs : List D} {vs : List V} {ns : List Str}, RpAll K G vs xs → strsOf xs = some ns → vs = ns.map V.str
  | [], _, ns, .nil, e => by
    cases e
    rfl
  | x :: xs, _, ns, .cons h t, e => by
    cases h with
    | str i =>
      obtain ⟨ms, e1, e2⟩ := Option.map_eq_some_iff.mp (show (strsOf xs).map (i :: ·) = some ns from e)
      subst e2
      rw [rps_strsOf t e1]
      rfl
    | _ => cases e
theorem intsOf_map : ∀ ns : List Int, intsOf (ns.map PyData.int) = some ns
  | [] => rfl
  | n :: ns => by rw [List.map_cons, intsOf, intsOf_map ns]; rfl
theorem boolsOf_map : ∀ ns : List Bool, boolsOf (ns.map PyData.bool) = some ns
  | [] => rfl
  | n :: ns => by rw [List.map_cons, boolsOf, boolsOf_map ns]; rfl
theorem strsOf_map : ∀ ns : List Str, strsOf (ns.map PyData.str) = some ns
  | [] => rfl
  | n :: ns => by rw [List.map_cons, strsOf, strsOf_map ns]; rfl
def fSum : FN := fun xs k => match xs with
  | [.list ys] => ∃ ns, intsOf ys = some ns ∧ k (.d (.int ns.sum))
  | _ => False
theorem fSum_mono : fSum.Mono := by
  intro xs k k' f h
  unfold fSum at *
  split at h
  · obtain ⟨ns, e, h⟩ := h; exact ⟨ns, e, f _ h⟩
  · exact h.elim
theorem fSum_ok {K : Fg} : fSum.Ok K (rSum K) := by
  intro G F H σ env xs vs k Q rep ps h q
  unfold fSum at h
  split at h
  · obtain ⟨ns, e, h⟩ := h
    obtain ⟨a, ws, rfl, h1, d1⟩ := ps.lists rep.gh
    have ew := rps_intsOf d1 e
    subst ew
    exact ⟨a, ns, rfl, .inl h1, q _ _ G H h idS (.of rep (.int _))⟩
  · exact h.elim
/-- the greatest, the least of a list of ints -/
def fExt (lt : Int → Int → Prop) : FN := fun xs k => match xs with
  | [.list ys] => ∃ ns, intsOf ys = some ns ∧ 0 < ns.length ∧ ∀ m, m ∈ ns → (∀ y, y ∈ ns → lt y m) → k (.d (.int m))
  | _ => False
theorem fExt_mono {lt : Int → Int → Prop} : (fExt lt).Mono := by
  intro xs k k' f h
  unfold fExt at *
  split at h
  · obtain ⟨ns, e, e2, h⟩ := h; exact ⟨ns, e, e2, fun m a b => f _ (h m a b)⟩
  · exact h.elim
theorem fMax_ok {K : Fg} : (fExt fun y m => y ≤ m).Ok K (rMax K) := by
  intro G F H σ env xs vs k Q rep ps h q
  unfold fExt at h
  split at h
  · obtain ⟨ns, e, e2, h⟩ := h
    obtain ⟨a, ws, rfl, h1, d1⟩ := ps.lists rep.gh
    have ew := rps_intsOf d1 e
    subst ew
    exact ⟨a, ns, rfl, .inl h1, e2, fun m m1 m2 => q _ _ G H (h m m1 m2) idS (.of rep (.int _))⟩
  · exact h.elim
theorem fMin_ok {K : Fg} : (fExt fun y m => m ≤ y).Ok K (rMin K) := by
  intro G F H σ env xs vs k Q rep ps h q
  unfold fExt at h
  split at h
  · obtain ⟨ns, e, e2, h⟩ := h
    obtain ⟨a, ws, rfl, h1, d1⟩ := ps.lists rep.gh
    have ew := rps_intsOf d1 e
    subst ew
    exact ⟨a, ns, rfl, .inl h1, e2, fun m m1 m2 => q _ _ G H (h m m1 m2) idS (.of rep (.int _))⟩
  · exact h.elim
def fBools (g : List Bool → Bool) : FN := fun xs k => match xs with
  | [.list ys] => ∃ ns, boolsOf ys = some ns ∧ k (.d (.bool (g ns)))
  | _ => False
theorem fBools_mono {g : List Bool → Bool} : (fBools g).Mono := by
  intro xs k k' f h
  unfold fBools at *
  split at h
  · obtain ⟨ns, e, h⟩ := h; exact ⟨ns, e, f _ h⟩
  · exact h.elim
theorem fAny_ok {K : Fg} : (fBools fun bs => bs.any id).Ok K (rAny K) := by
  intro G F H σ env xs vs k Q rep ps h q
  unfold fBools at h
  split at h
  · obtain ⟨ns, e, h⟩ := h
    obtain ⟨a, ws, rfl, h1, d1⟩ := ps.lists rep.gh
    have ew := rps_boolsOf d1 e
    subst ew
    exact ⟨a, ns, rfl, .inl h1, q _ _ G H h idS (.of rep (.bl _))⟩
  · exact h.elim
theorem fAll_ok {K : Fg} : (fBools fun bs => bs.all id).Ok K (rAll K) := by
  intro G F H σ env xs vs k Q rep ps h q
  unfold fBools at h
  split at h
  · obtain ⟨ns, e, h⟩ := h
    obtain ⟨a, ws, rfl, h1, d1⟩ := ps.lists rep.gh
    have ew := rps_boolsOf d1 e
    subst ew
    exact ⟨a, ns, rfl, .inl h1, q _ _ G H h idS (.of rep (.bl _))⟩
  · exact h.elim
/-- sorted, of ints -/
def fSorted : FN := fun xs k => match xs with
  | [.list ys] => ∃ ns, intsOf ys = some ns ∧ ns.length < 64 ∧ ∀ ns' : List Int, ns'.Perm ns → ns'.Pairwise (· ≤ ·) → k (.own (ns'.map PyData.int))
  | _ => False
theorem fSorted_mono : fSorted.Mono := by
  intro xs k k' f h
  unfold fSorted at *
  split at h
  · obtain ⟨ns, e, e2, h⟩ := h; exact ⟨ns, e, e2, fun m a b => f _ (h m a b)⟩
  · exact h.elim
theorem fSorted_ok {K : Fg} : fSorted.Ok K (rSorted K) := by
  intro G F H σ env xs vs k Q rep ps h q
  unfold fSorted at h
  split at h
  · obtain ⟨ns, e, e2, h⟩ := h
    obtain ⟨a, ws, rfl, h1, d1⟩ := ps.lists rep.gh
    have ew := rps_intsOf d1 e
    subst ew
    exact ⟨a, ns, rfl, .inl h1, e2, fun ns' p m1 m2 hp => q _ _ G _ (h ns' m1 m2) idS (rep.lst hp (ints_rps ns'))⟩
  · exact h.elim
/-- str(int) -/
def fStr : FN := fun xs k => match xs with
  | [.int i] => i.natAbs.log2 < 1920 ∧ k (.d (.str (toString i)))
  | _ => False
theorem fStr_mono : fStr.Mono := by
  intro xs k k' f h
  unfold fStr at *
  split at h
  · exact ⟨h.1, f _ h.2⟩
  · exact h.elim
theorem fStr_ok {K : Fg} : fStr.Ok K (fun xs H Q => ∃ i, xs = [.int i] ∧ i.natAbs.log2 < 1920 ∧ Q (.str (toString i)) H) := by
  intro G F H σ env xs vs k Q rep ps h q
  unfold fStr at h
  split at h
  · obtain ⟨v, rfl, p⟩ := ps.one
    rw [p.int]
    exact ⟨_, rfl, h.1, q _ _ G H h.2 idS (.of rep (.str _))⟩
  · exact h.elim
section
variable {X : Cx} {e : Expr} {es : List Expr} {p pos : Pos} {ra : RA}
theorem qe_len (hm : X.mg "len" = none) (ha : QA X [e] ra) (hg : Gl X "len" := by rfl) (he : starEach [e] X.env = (false, eval e X.env) :: starEach [] X.env := by rfl) (hpl : (backTo pos (starEach [] X.env)).any (·.1) = false := by rfl) : QE X (.Call (.Name "len" p) [e] [] pos) (rCB fLen ra) := qe_callB call_len fLen_ok fLen_mono hm ha PySem.boot_len hg (by decide) (by decide) he hpl
theorem qe_int (hm : X.mg "int" = none) (ha : QA X [e] ra) (hg : Gl X "int" := by rfl) (he : starEach [e] X.env = (false, eval e X.env) :: starEach [] X.env := by rfl) (hpl : (backTo pos (starEach [] X.env)).any (·.1) = false := by rfl) : QE X (.Call (.Name "int" p) [e] [] pos) (rCB fInt ra) := qe_callTy call_int1 fInt_ok fInt_mono hm ha (by decide +kernel) hg (by decide) (by decide) he hpl
theorem qe_abs (hm : X.mg "abs" = none) (ha : QA X [e] ra) (hg : Gl X "abs" := by rfl) (he : starEach [e] X.env = (false, eval e X.env) :: starEach [] X.env := by rfl) (hpl : (backTo pos (starEach [] X.env)).any (·.1) = false := by rfl) : QE X (.Call (.Name "abs" p) [e] [] pos) (rCB (fI1 (fun _ => True) fun i => if i < 0 then -i else i) ra) := qe_callB call_abs fAbs_ok fI1_mono hm ha (by decide +kernel) hg (by decide) (by decide) he hpl
theorem qe_tuple (hm : X.mg "tuple" = none) (ha : QA X [e] ra) (hg : Gl X "tuple" := by rfl) (he : starEach [e] X.env = (false, eval e X.env) :: starEach [] X.env := by rfl) (hpl : (backTo pos (starEach [] X.env)).any (·.1) = false := by rfl) : QE X (.Call (.Name "tuple" p) [e] [] pos) (rCB fTuple ra) := qe_callTy call_tupleF fTuple_ok fTuple_mono hm ha (by decide +kernel) hg (by decide) (by decide) he hpl
theorem qe_list (hc : X.calm = true) (hm : X.mg "list" = none) (ha : QA X [e] ra) (hg : Gl X "list" := by rfl) (he : starEach [e] X.env = (false, eval e X.env) :: starEach [] X.env := by rfl) (hpl : (backTo pos (starEach [] X.env)).any (·.1) = false := by rfl) : QE X (.Call (.Name "list" p) [e] [] pos) (rCB fList ra) := qe_callTy (CallR.or call_list_of (cr_listS hc)) fList_ok fList_mono hm ha (by decide +kernel) hg (by decide) (by decide) he hpl
theorem qe_sum (hc : X.calm = true) (hm : X.mg "sum" = none) (ha : QA X [e] ra) (hg : Gl X "sum" := by rfl) (he : starEach [e] X.env = (false, eval e X.env) :: starEach [] X.env := by rfl) (hpl : (backTo pos (starEach [] X.env)).any (·.1) = false := by rfl) : QE X (.Call (.Name "sum" p) [e] [] pos) (rCB fSum ra) := qe_callB (cr_sum hc) fSum_ok fSum_mono hm ha (by decide +kernel) hg (by decide) (by decide) he hpl
theorem qe_max (hc : X.calm = true) (hm : X.mg "max" = none) (ha : QA X [e] ra) (hg : Gl X "max" := by rfl) (he : starEach [e] X.env = (false, eval e X.env) :: starEach [] X.env := by rfl) (hpl : (backTo pos (starEach [] X.env)).any (·.1) = false := by rfl) : QE X (.Call (.Name "max" p) [e] [] pos) (rCB (fExt fun y m => y ≤ m) ra) := qe_callB (cr_max hc) fMax_ok fExt_mono hm ha (by decide +kernel) hg (by decide) (by decide) he hpl
theorem qe_any (hc : X.calm = true) (hm : X.mg "any" = none) (ha : QA X [e] ra) (hg : Gl X "any" := by rfl) (he : starEach [e] X.env = (false, eval e X.env) :: starEach [] X.env := by rfl) (hpl : (backTo pos (starEach [] X.env)).any (·.1) = false := by rfl) : QE X (.Call (.Name "any" p) [e] [] pos) (rCB (fBools fun bs => bs.any id) ra) := qe_callB (cr_any hc) fAny_ok fBools_mono hm ha (by decide +kernel) hg (by decide) (by decide) he hpl
theorem qe_all (hc : X.calm = true) (hm : X.mg "all" = none) (ha : QA X [e] ra) (hg : Gl X "all" := by rfl) (he : starEach [e] X.env = (false, eval e X.env) :: starEach [] X.env := by rfl) (hpl : (backTo pos (starEach [] X.env)).any (·.1) = false := by rfl) : QE X (.Call (.Name "all" p) [e] [] pos) (rCB (fBools fun bs => bs.all id) ra) := qe_callB (cr_all hc) fAll_ok fBools_mono hm ha (by decide +kernel) hg (by decide) (by decide) he hpl
theorem qe_sorted (hm : X.mg "sorted" = none) (ha : QA X [e] ra) (hg : Gl X "sorted" := by rfl) (he : starEach [e] X.env = (false, eval e X.env) :: starEach [] X.env := by rfl) (hpl : (backTo pos (starEach [] X.env)).any (·.1) = false := by rfl) : QE X (.Call (.Name "sorted" p) [e] [] pos) (rCB fSorted ra) := qe_callB cr_sorted fSorted_ok fSorted_mono hm ha (by decide +kernel) hg (by decide) (by decide) he hpl
theorem qe_str1 (hm : X.mg "str" = none) (ha : QA X [e] ra) (hg : Gl X "str" := by rfl) (he : starEach [e] X.env = (false, eval e X.env) :: starEach [] X.env := by rfl) (hpl : (backTo pos (starEach [] X.env)).any (·.1) = false := by rfl) : QE X (.Call (.Name "str" p) [e] [] pos) (rCB fStr ra) := qe_callTy call_str_int fStr_ok fStr_mono hm ha (by decide +kernel) hg (by decide) (by decide) he hpl
theorem qe_gcd (hm : X.mg "gcd" = some (.builtin "math.gcd")) (ha : QA X (e :: es) ra) (hg : Gl X "gcd" := by rfl) (he : starEach (e :: es) X.env = (false, eval e X.env) :: starEach es X.env := by rfl) (hpl : (backTo pos (starEach es X.env)).any (·.1) = false := by rfl) : QE X (.Call (.Name "gcd" p) (e :: es) [] pos) (rCB fGcd ra) := qe_callM (r := fun xs H Q => ∃ i j, xs = [.int i, .int j] ∧ True ∧ Q (.int ((Nat.gcd i.natAbs j.natAbs : Nat) : Int)) H) (CallR.imp cr_gcd fun vs H Q ⟨i, j, e, _, q⟩ => ⟨i, j, e, q⟩) fI2_ok fI2_mono hm ha hg (by decide) he hpl
theorem qe_lcm (hm : X.mg "lcm" = some (.builtin "math.lcm")) (ha : QA X (e :: es) ra) (hg : Gl X "lcm" := by rfl) (he : starEach (e :: es) X.env = (false, eval e X.env) :: starEach es X.env := by rfl) (hpl : (backTo pos (starEach es X.env)).any (·.1) = false := by rfl) : QE X (.Call (.Name "lcm" p) (e :: es) [] pos) (rCB fLcm ra) := qe_callM cr_lcm fI2_ok fI2_mono hm ha hg (by decide) he hpl
end
end Pf
set_option Elab.async false
set_option linter.all false
set_option maxRecDepth 100000
set_option maxHeartbeats 4000000
/-! Pf: calls of the text's own defs. -/
namespace Pf
open PySem PySem.Spec PyProof.Rows L2

/-- a def's promise over things: what it asks of its arguments, what it gives back and what becomes of the arguments that are its caller's own -/
abbrev FSp := List O → (O → List O → Prop) → Prop
def SpOf (K : Fg) (sp : FSp) : Sp := fun vs H Q _ => ∃ os G F, Rep K G F H (vs.map some) (os.map some) ∧ sp os fun o os' => ∀ v G' H', Same G G' → RepV K G' F H' (vs.map some) (os'.map some) v o → Q v H'

def takeA (e : Env) : List Arg → (List O → List (Option Nat) → Env → Prop) → Prop
  | [], k => k [] [] e
  | .val x :: as, k => takeA e as fun os rs e' => k (.d x :: os) (none :: rs) e'
  | .bor i :: as, k => match e[i]? with
    | some (some (.d x)) => takeA e as fun os rs e' => k (.d x :: os) (none :: rs) e'
    | some (some o) => takeA (e.set i none) as fun os rs e' => k (o :: os) (some i :: rs) e'
    | _ => False
def putA (e : Env) : List (Option Nat) → List O → Env
  | [], _ => e
  | none :: rs, os => putA e rs os.tail
  | some i :: rs, os => putA (e.set i os.head?) rs os.tail
theorem takeA_mono {k k' : List O → List (Option Nat) → Env → Prop} (f : ∀ a b c, k a b c → k' a b c) : ∀ {as : List Arg} {e : Env}, takeA e as k → takeA e as k'
  | [], e, h => f _ _ _ h
  | .val x :: as, e, h => takeA_mono (k := fun os rs e' => k (.d x :: os) (none :: rs) e') (fun a b c => f _ _ _) h
  | .bor i :: as, e, h => by
    unfold takeA at h ⊢
    split at h
    · exact takeA_mono (fun a b c => f _ _ _) h
    · exact takeA_mono (fun a b c => f _ _ _) h
    · exact h.elim

theorem perm_mid {α : Type} (a b c : List α) : (a ++ (b ++ c)).Perm (b ++ (a ++ c)) := by
  rw [← List.append_assoc, ← List.append_assoc]
  exact List.Perm.append_right c List.perm_append_comm

inductive PutOk (σ : L2.St) : Env → List V → List (Option Nat) → Prop
  | nil {e : Env} : PutOk σ e [] []
  | no {e : Env} {v : V} {vs : List V} {rs : List (Option Nat)} : PutOk σ e vs rs → PutOk σ e (v :: vs) (none :: rs)
  | at {e : Env} {v : V} {vs : List V} {rs : List (Option Nat)} {i : Nat} : e[i]? = some none → σ[i]? = some (some v) → (∀ oo, PutOk σ (e.set i oo) vs rs) → PutOk σ e (v :: vs) (some i :: rs)
theorem PutOk.set {σ : L2.St} : ∀ {vs : List V} {rs : List (Option Nat)} {e : Env} {i : Nat} {oo : Option O}, PutOk σ e vs rs → some i ∉ rs → PutOk σ (e.set i oo) vs rs
  | [], _, _, _, _, .nil, _ => .nil
  | _ :: _, _, _, _, _, .no h, n => .no (PutOk.set h fun m => n (List.mem_cons_of_mem _ m))
  | _ :: _, _, e, i, oo, .at (i := j) h1 h2 h3, n => by
    have ne : i ≠ j := fun z => n (by rw [z]; exact List.mem_cons_self)
    refine .at ?_ h2 fun oo' => ?_
    · rw [List.getElem?_set_ne ne]
      exact h1
    · rw [List.set_comm _ _ ne]
      exact PutOk.set (h3 oo') fun m => n (List.mem_cons_of_mem _ m)
theorem putA_ok {K : Fg} {G H : Hp} {σ : L2.St} : ∀ {vs : List V} {rs : List (Option Nat)} {os : List O} {e : Env} {fpA fp : List Addr}, Slots K G H (vs.map some) (os.map some) fpA → Slots K G H σ e fp → PutOk σ e vs rs →
    ∃ fpX fp', fpX.Sublist fpA ∧ fp'.Perm (fpX ++ fp) ∧ Slots K G H σ (putA e rs os) fp'
  | [], _, os, e, fpA, fp, sa, s, .nil => ⟨[], fp, List.nil_sublist _, .refl _, s⟩
  | v :: vs, _, os, e, fpA, fp, sa, s, .no h => by
    cases os with
    | nil => cases sa
    | cons o os =>
      cases sa with
      | one r t =>
        obtain ⟨fpX, fp', h1, h2, h3⟩ := putA_ok t s h
        exact ⟨fpX, fp', h1.trans (List.sublist_append_right _ _), h2, h3⟩
  | v :: vs, _, os, e, fpA, fp, sa, s, .at (rs := rs) (i := i) h1 h2 h3 => by
    cases os with
    | nil => cases sa
    | cons o os =>
      cases sa with
      | one r t =>
        rename_i fp1 fpB
        obtain ⟨fa, f1, fb, x, e1, e2, e3, g⟩ := s.split h1
        have e3 : f1 = [] := e3
        subst e3 e1
        rw [h2] at e2
        cases e2
        have s2 := g G H (some v) (some o) fp1 idS (fun _ _ => rfl) ⟨v, rfl, r⟩
        rw [set_self h2] at s2
        obtain ⟨fpX, fp', g1, g2, g3⟩ := putA_ok t s2 (h3 (some o))
        refine ⟨fp1 ++ fpX, fp', (List.Sublist.refl _).append g1, ?_, g3⟩
        refine g2.trans ?_
        rw [List.nil_append]
        have p1 : (fa ++ (fp1 ++ fb)).Perm (fp1 ++ (fa ++ fb)) := perm_mid _ _ _
        have p2 : (fpX ++ (fa ++ (fp1 ++ fb))).Perm (fpX ++ (fp1 ++ (fa ++ fb))) := List.Perm.append_left _ p1
        refine p2.trans ?_
        rw [List.append_assoc]
        exact perm_mid _ _ _
theorem takeA_ok {K : Fg} {G H : Hp} {σ : L2.St} : ∀ {vs : List V} {as : List Arg} {e : Env} {fp : List Addr} {k : List O → List (Option Nat) → Env → Prop}, Slots K G H σ e fp → ArgsRep K G σ vs as → takeA e as k →
    ∃ os rs e1 fpA fp1, k os rs e1 ∧ Slots K G H (vs.map some) (os.map some) fpA ∧ Slots K G H σ e1 fp1 ∧ (fpA ++ fp1).Perm fp ∧ PutOk σ e1 vs rs ∧ ∀ i, e[i]? = some none → e1[i]? = some none ∧ some i ∉ rs
  | _, _, e, fp, k, s, .nil, h => ⟨[], [], e, [], fp, h, .nil, s, .refl _, .nil, fun i hi => ⟨hi, by simp⟩⟩
  | v :: vs, .val x :: as, e, fp, k, s, .cons a t, h => by
    obtain ⟨os, rs, e1, fpA, fp1, h1, h2, h3, h4, h5, h6⟩ := takeA_ok s t h
    exact ⟨_, _, e1, [] ++ fpA, fp1, h1, .one ⟨a, rfl⟩ h2, h3, h4, .no h5, fun i hi => ⟨(h6 i hi).1, fun m => (h6 i hi).2 (by simpa using m)⟩⟩
  | v :: vs, .bor i :: as, e, fp, k, s, .cons a t, h => by
    have a : σ[i]? = some (some v) := a
    unfold takeA at h
    split at h
    · rename_i x ex
      obtain ⟨os, rs, e1, fpA, fp1, h1, h2, h3, h4, h5, h6⟩ := takeA_ok s t h
      obtain ⟨fa, f1, fb, y, q1, q2, ⟨v2, q3, q4⟩, g⟩ := s.split ex
      rw [a] at q2
      cases q2
      cases q3
      exact ⟨_, _, e1, [] ++ fpA, fp1, h1, .one ⟨q4.1, rfl⟩ h2, h3, h4, .no h5, fun i hi => ⟨(h6 i hi).1, fun m => (h6 i hi).2 (by simpa using m)⟩⟩
    · rename_i o _ ex
      obtain ⟨fa, f1, fb, y, q1, q2, ⟨v2, q3, q4⟩, g⟩ := s.split ex
      rw [a] at q2
      cases q2
      cases q3
      have s2 := g G H (some v) none [] idS (fun _ _ => rfl) rfl
      rw [set_self a] at s2
      obtain ⟨os, rs, e1, fpA, fp1, h1, h2, h3, h4, h5, h6⟩ := takeA_ok s2 t h
      have hi : (e.set i none)[i]? = some none := by
        rw [List.getElem?_set_self]
        exact (List.getElem?_eq_some_iff.mp ex).1
      have h7 := h6 i hi
      refine ⟨_, _, e1, f1 ++ fpA, fp1, h1, .one q4 h2, h3, ?_, .at h7.1 a fun oo => h5.set h7.2, fun j hj => ?_⟩
      · rw [q1, List.append_assoc]
        exact (List.Perm.append_left f1 h4).trans (perm_mid _ _ _)
      · have ne : i ≠ j := fun z => by
          rw [z, hj] at ex
          cases ex
        have h8 := h6 j (by rw [List.getElem?_set_ne ne]; exact hj)
        exact ⟨h8.1, fun m => by
          rcases List.mem_cons.mp m with m | m
          · exact ne (Option.some.inj m).symm
          · exact h8.2 m⟩
    · exact h.elim
open Classical in
/-- a call: what is one's own is lent, and given back -/
def rCall (sp : FSp) (ra : RA) : RE := fun env Q => ra env fun as e => takeA e as fun os rs e1 => sp os fun o os' => Q o (putA e1 rs os')
def FSp.Mono (sp : FSp) : Prop := ∀ os (k k' : O → List O → Prop), (∀ a b, k a b → k' a b) → sp os k → sp os k'
theorem rCall_mono {sp : FSp} {ra : RA} (ms : sp.Mono) (ma : MonoK ra) : MonoK (rCall sp ra) := fun env Q Q' g h =>
  ma _ _ _ (fun as e z => takeA_mono (fun os rs e1 z => ms _ _ _ (fun o os' => g _ _) z) z) h
open Classical in
theorem spOf_of {K : Fg} {sp : FSp} (ms : sp.Mono) {G F H : Hp} {σ : L2.St} {e : Env} {vs : List V} {as : List Arg} {Q0 : O → Env → Prop} {Q : VK} {E : XK} (rep : Rep K G F H σ e) (ha : ArgsRep K G σ vs as) (h : takeA e as fun os rs e1 => sp os fun o os' => Q0 o (putA e1 rs os'))
    (q : ∀ o e' v G' H', Q0 o e' → Same G G' → RepV K G' F H' σ e' v o → Q v H') : SpOf K sp vs H Q E := by
  obtain ⟨fp, s, w⟩ := rep
  obtain ⟨os, rs, e1, fpA, fp1, h1, h2, h3, h4, h5, h6⟩ := takeA_ok s ha h
  have w2 : Hps G F H (fpA ++ fp1) := w.perm h4.symm
  have nd := List.nodup_append.mp w2.nd
  refine ⟨os, G, fun a => if a ∈ fp1 then H a else F a, ⟨fpA, h2, w2.gh, fun a o ea => ?_, fun a ea => ?_, nd.1, fun a m => w2.pg a (List.mem_append_left _ m), fun a m => ?_⟩, ?_⟩
  · by_cases m : a ∈ fp1
    · simp only [m, if_true] at ea
      exact ea
    · simp only [m, if_false] at ea
      exact w2.fh a o ea
  · by_cases m : a ∈ fp1
    · exact absurd (w2.pg a (List.mem_append_right _ m)) ea
    · simp only [m, if_false]
      exact w2.gf a ea
  · have m2 : a ∉ fp1 := fun m2 => nd.2.2 a m a m2 rfl
    simp only [m2, if_false]
    exact w2.pf a (List.mem_append_left _ m)
  · refine ms _ _ _ (fun o os' z v G' H' sG rv => ?_) h1
    obtain ⟨fpA', fpv, sA, ro, w3⟩ := rv
    have keep : ∀ a ∈ fp1, H' a = H a := fun a m => by
      cases ea : H a with
      | none => exact absurd ea (h3.dom a m)
      | some ob => exact w3.fh a ob (by simp only [m, if_true]; exact ea)
    obtain ⟨fpX, fp', g1, g2, g3⟩ := putA_ok sA (h3.mono sG keep) h5
    have fp1F : ∀ a ∈ fp1, (if a ∈ fp1 then H a else F a) ≠ none := fun a m => by
      simp only [m, if_true]
      exact h3.dom a m
    have p1 : (fpv ++ fp').Perm (fpv ++ (fpX ++ fp1)) := List.Perm.append_left _ g2
    have wX : Hps G' F H' (fpv ++ (fpX ++ fp1)) := by
      refine ⟨w3.gh, fun a o ea => w3.fh a o ?_, fun a ea => ?_, ?_, fun a m => ?_, fun a m => ?_⟩
      · have m2 : a ∉ fp1 := fun m2 => by
          rw [w2.pf a (List.mem_append_right _ m2)] at ea
          cases ea
        simp only [m2, if_false]
        exact ea
      · have := w3.gf a ea
        by_cases m : a ∈ fp1
        · exact w2.pf a (List.mem_append_right _ m)
        · simp only [m, if_false] at this
          exact this
      · have n3 := List.nodup_append.mp w3.nd
        rw [← List.append_assoc, List.nodup_append]
        refine ⟨(w3.nd.sublist ((List.Sublist.refl _).append g1)), nd.2.1, fun a m b m2 eab => ?_⟩
        subst eab
        have m3 : a ∈ fpv ++ fpA' := ((List.Sublist.refl fpv).append g1).subset m
        exact fp1F a m2 (w3.pf a m3)
      · rcases List.mem_append.mp m with m | m
        · exact w3.pg a (List.mem_append_left _ m)
        · rcases List.mem_append.mp m with m | m
          · exact w3.pg a (List.mem_append_right _ (g1.subset m))
          · refine none_of fun o eo => fp1F a m (w3.gf a (by rw [eo]; exact fun z => nomatch z))
      · rcases List.mem_append.mp m with m | m
        · have := w3.pf a (List.mem_append_left _ m)
          by_cases m2 : a ∈ fp1
          · exact w2.pf a (List.mem_append_right _ m2)
          · simp only [m2, if_false] at this
            exact this
        · rcases List.mem_append.mp m with m | m
          · have := w3.pf a (List.mem_append_right _ (g1.subset m))
            by_cases m2 : a ∈ fp1
            · exact w2.pf a (List.mem_append_right _ m2)
            · simp only [m2, if_false] at this
              exact this
          · exact w2.pf a (List.mem_append_right _ m)
    exact q o _ v G' H' z sG ⟨fp', fpv, g3, ro, wX.perm p1.symm⟩

/-- a def of the text: where it stands, how its arguments bind, its promise -/
structure Has (P : Program) (w : World) (K : Fg) (mg : Str → Option Value) (base : Heap) (x : Str) (ps : List Str) (k : Nat) (sp : FSp) : Prop where
  ex : ∃ f fd, mg x = some (.ref f) ∧ PySem.W.keepIn K (.ref f) = true ∧ Binds K fd ps [] ∧ FnOk P w K mg base CX0 k f fd ps (SpOf K sp)
  mono : sp.Mono
theorem qe_call {X : Cx} {x : Str} {p pos : Pos} {ps : List Str} {k : Nat} {sp : FSp} {e : Expr} {es : List Expr} {ra : RA} (h : Has X.prog X.w X.K X.mg X.base x ps k sp) (hr : Room k X.A) (ha : QA X (e :: es) ra) (hg : Gl X x := by rfl)
    (hdb : (x == ("__debug__" : Str)) = false := by decide) (he : starEach (e :: es) X.env = (false, eval e X.env) :: starEach es X.env := by rfl) (hpl : (backTo pos (starEach es X.env)).any (·.1) = false := by rfl) : QE X (.Call (.Name x p) (e :: es) [] pos) (rCall sp ra) := by
  obtain ⟨f, fd, hm, hk, hb, F⟩ := h.ex
  refine ⟨rCall_mono h.mono ha.mono, pe_imp (pe_call F hr hg hm hk hb .nil pass0 ha.run hdb he hpl) ?_⟩
  intro σ H Q ⟨env, G, F', rep, z⟩
  refine liftA_of ha.mono rep z fun as e vs G1 H1 h1 s1 rep1 d1 => ?_
  rw [List.append_nil]
  exact spOf_of (Q0 := fun o env' => ∀ v G' H', Same G G' → RepV X.K G' F' H' σ env' v o → Q v H') h.mono rep1 d1 h1 fun o e' v G' H' q s r => q v G' H' (s1.trans s) r
end Pf

namespace Pf
open PySem PySem.Spec PyProof.Rows L2
/-! ### a def's body -/
def env0 (N : List Str) (os : List O) : Env := os.map some ++ List.replicate (N.length - os.length) none
/-- what the arguments become: data stays, what is the caller's own is read off the parameter's slot -/
def finL : Env → List O → (List O → Prop) → Prop
  | _, [], k => k []
  | _ :: e, .d x :: os, k => finL e os fun os' => k (.d x :: os')
  | some o' :: e, _ :: os, k => finL e os fun os' => k (o' :: os')
  | _, _, _ => False
def keepOk (kp : List Nat) : Nat → List O → Prop
  | _, [] => True
  | i, .d _ :: os => keepOk kp (i + 1) os
  | i, _ :: os => i ∈ kp ∧ keepOk kp (i + 1) os
theorem slots_start {K : Fg} {G H : Hp} (m : Nat) : ∀ {vs : List V} {os : List O} {fp : List Addr}, Slots K G H (vs.map some) (os.map some) fp → Slots K G H (vs.map some ++ List.replicate m none) (os.map some ++ List.replicate m none) fp
  | [], [], _, .nil => by
    induction m with
    | zero => exact .nil
    | succ m ih => exact .non ih
  | v :: vs, o :: os, _, .one r t => .one r (slots_start m t)
theorem finL_ok {K : Fg} {G G' H H' : Hp} (s : Same G G') {kp : List Nat} {σ0 : L2.St} : ∀ {vs : List V} {os : List O} {fpA : List Addr} {i : Nat} {σ' : L2.St} {e : Env} {fp : List Addr} {k : List O → Prop}, Slots K G H (vs.map some) (os.map some) fpA → Slots K G' H' σ' e fp →
    keepOk kp i os → (∀ j, i + j ∈ kp → σ'[j]? = σ0[i + j]?) → (∀ j v, vs[j]? = some v → σ0[i + j]? = some (some v)) → finL e os k →
    ∃ os' fpX, k os' ∧ fpX.Sublist fp ∧ Slots K G' H' (vs.map some) (os'.map some) fpX := by
  intro vs os
  induction os generalizing vs with
  | nil =>
    intro fpA i σ' e fp k sa sl _ _ _ h
    cases vs with
    | nil => exact ⟨[], [], by cases e <;> exact h, List.nil_sublist _, .nil⟩
    | cons v vs => cases sa
  | cons o os ih =>
    intro fpA i σ' e fp k sa sl hk h1 h2 h
    cases vs with
    | nil => cases sa
    | cons v vs =>
      cases sa with
      | one r t =>
        have h2' : ∀ j u, vs[j]? = some u → σ0[i + 1 + j]? = some (some u) := fun j u e => by
          rw [Nat.add_assoc, Nat.add_comm 1 j]
          exact h2 (j + 1) u (by simpa using e)
        cases sl with
        | nil => cases o <;> exact h.elim
        | non sl =>
          rename_i x σ' e
          have h1' : ∀ j, i + 1 + j ∈ kp → σ'[j]? = σ0[i + 1 + j]? := fun j m => by
            rw [Nat.add_assoc, Nat.add_comm 1 j] at m ⊢
            simpa using h1 (j + 1) m
          cases o with
          | d y =>
            obtain ⟨os', fpX, g1, g2, g3⟩ := ih t sl hk h1' h2' h
            exact ⟨_, [] ++ fpX, g1, g2, .one ⟨rp_mono s y r.1, rfl⟩ g3⟩
          | own y => exact h.elim
          | dct y => exact h.elim
          | res y => exact h.elim
        | one r' sl =>
          rename_i u o' σ' e fp1 fp2
          have h1' : ∀ j, i + 1 + j ∈ kp → σ'[j]? = σ0[i + 1 + j]? := fun j m => by
            rw [Nat.add_assoc, Nat.add_comm 1 j] at m ⊢
            simpa using h1 (j + 1) m
          have eu : i ∈ kp → u = v := fun m => by
            have := h1 0 m
            have q := h2 0 v rfl
            rw [Nat.add_zero] at this q
            rw [q] at this
            simpa using this
          cases o with
          | d y =>
            obtain ⟨os', fpX, g1, g2, g3⟩ := ih t sl hk h1' h2' h
            exact ⟨_, [] ++ fpX, g1, g2.trans (List.sublist_append_right _ _), .one ⟨rp_mono s y r.1, rfl⟩ g3⟩
          | own y =>
            obtain ⟨os', fpX, g1, g2, g3⟩ := ih t sl hk.2 h1' h2' h
            have e := eu hk.1
            subst e
            exact ⟨_, fp1 ++ fpX, g1, (List.Sublist.refl _).append g2, .one r' g3⟩
          | dct y =>
            obtain ⟨os', fpX, g1, g2, g3⟩ := ih t sl hk.2 h1' h2' h
            have e := eu hk.1
            subst e
            exact ⟨_, fp1 ++ fpX, g1, (List.Sublist.refl _).append g2, .one r' g3⟩
          | res y =>
            obtain ⟨os', fpX, g1, g2, g3⟩ := ih t sl hk.2 h1' h2' h
            have e := eu hk.1
            subst e
            exact ⟨_, fp1 ++ fpX, g1, (List.Sublist.refl _).append g2, .one r' g3⟩
theorem slots_lenA {K : Fg} {G H : Hp} {vs : List V} {os : List O} {fp : List Addr} (h : Slots K G H (vs.map some) (os.map some) fp) : vs.length = os.length := by
  have := h.len
  rwa [List.length_map, List.length_map] at this
/-- THE RULE for a def: a derivation of its body, and what the reading says -/
theorem fn_ok {P : Program} {w : World} {K : Fg} {mg : Str → Option Value} {base : Heap} {x qual : Str} {st : Stmt} {f : Addr} {fd : FuncData} {N ps : List Str} {k : Nat} {sp : FSp} (F : Fun K x qual st f fd) (S : FnScope N ps (defScope st)) (kp : List Nat) {r : RS}
    (body : ∀ (cdv : Value) (A : Around) (outer : List PySem.Env) (s : Shared) (H : Hp) (E : XK), Room k (A.deeper (envOfC qual (defScope st) s.heap.objs.size f cdv)) → QSs (cxOf CX0 P w K mg base N qual (defScope st) f cdv A outer s H E).nox kp (defBody st) r)
    (len : ∀ os Q, sp os Q → os.length = ps.length) (keep : ∀ os Q, sp os Q → keepOk kp 0 os)
    (sem : ∀ os Q, sp os Q → r { nx := fun e => finL e os (Q (.d .none)), rt := fun o e => finL e os (Q o), bk := fun _ => False, ct := fun _ => False } (env0 N os)) :
    FnOk P w K mg base CX0 (k + 1) f fd ps (SpOf K sp) := by
  refine F.ok S (fun vs H Q E h => ?_) (fun cdv A outer s H vs Q E hr h => ?_)
  · obtain ⟨os, G, F0, ⟨fp, sl, w0⟩, h⟩ := h
    rw [slots_lenA sl]
    exact len os _ h
  · obtain ⟨os, G, F0, ⟨fp, sl, w0⟩, h⟩ := h
    have q := body cdv A outer s H E hr
    refine ⟨liftS K kp r, q.run, env0 N os, G, F0, ⟨fp, ?_, w0⟩, ?_⟩
    · unfold env0 L2.start
      rw [← slots_lenA sl]
      exact slots_start _ sl
    · have start_at : ∀ j v, vs[j]? = some v → (L2.start N vs)[0 + j]? = some (some v) := fun j v e => by
        rw [Nat.zero_add]
        unfold L2.start
        have hj : j < (vs.map some).length := by
          rw [List.length_map]
          exact (List.getElem?_eq_some_iff.mp e).1
        rw [List.getElem?_append_left hj, List.getElem?_map, e]
        rfl
      refine q.mono _ _ _ ⟨fun e z σ' G' H' sG hK r' => ?_, fun o e z v σ' G' H' sG hK r' => ?_, fun e (z : False) => z.elim, fun e (z : False) => z.elim⟩ (sem os _ h)
      · obtain ⟨fp2, sl2, w2⟩ := r'
        obtain ⟨os', fpX, g1, g2, g3⟩ := finL_ok sG (i := 0) (σ0 := L2.start N vs) sl sl2 (keep os _ h) (fun j m => by rw [Nat.zero_add] at m ⊢; exact hK j m) start_at z
        exact g1 .non G' H' sG ⟨fpX, [], g3, ⟨.non, rfl⟩, w2.sub g2⟩
      · obtain ⟨fp2, fpv, sl2, ro, w2⟩ := r'
        obtain ⟨os', fpX, g1, g2, g3⟩ := finL_ok sG (i := 0) (σ0 := L2.start N vs) sl sl2 (keep os _ h) (fun j m => by rw [Nat.zero_add] at m ⊢; exact hK j m) start_at z
        exact g1 v G' H' sG ⟨fpX, fpv, g3, ro, w2.sub ((List.Sublist.refl _).append g2)⟩
end Pf
set_option Elab.async false
set_option linter.all false
set_option maxRecDepth 100000
set_option maxHeartbeats 4000000
/-! Pf: enumerate and zip over lists and tuples alike, made of the library's walks of anything. -/
namespace Pf
open PySem PySem.Spec PyProof.Rows L2

def SqB (K : Fg) (t : Bool) (H : Hp) (a : Addr) (xs : List V) : Prop := match t with
  | false => SqL K H a xs
  | true => SqT K H a xs
def IsQ (t : Bool) (h : Heap) (a : Addr) (items : Array Value) : Prop := match t with
  | false => h.IsList a items
  | true => h.IsTuple a items
def ItQ (t : Bool) (h : Heap) (it a : Addr) (i : Nat) : Prop := match t with
  | false => h.IsListIter it a i
  | true => h.IsTupleIter it a i
def itO (t : Bool) (a : Addr) : Obj := match t with
  | false => { cls := .type "list_iterator", data := .fields #[.ref a, .int 0 0] }
  | true => { cls := .type "tuple_iterator", data := .fields #[.ref a, .int 0 0] }
theorem begQ (t : Bool) (a : Addr) (items : Array Value) : Begins (.ref a) (itO t a) fun h => IsQ t h a items := by
  cases t
  · exact begins_list a items
  · exact begins_tuple a items
theorem drawQ {prog : Program} {w : World} {A : Around} (hh : A.handled = none) (t : Bool) (it a : Addr) (hne : a ≠ it) (items : Array Value) :
    Draws prog w A it [it, a] items.size (fun i v => items[i]? = some v) (fun i h => ItQ t h it a i ∧ IsQ t h a items) := by
  cases t
  · exact Draws.list hh it a hne items
  · exact Draws.tuple hh it a hne items
theorem itQ_new {t : Bool} {h : Heap} {it a : Addr} (e : h.get? it = some (itO t a)) : ItQ t h it a 0 := by
  cases t
  · exact ⟨_, e, rfl, rfl⟩
  · exact ⟨_, e, rfl, rfl⟩
theorem itQ_obj {t : Bool} {h : Heap} {it a : Addr} {i : Nat} (e : ItQ t h it a i) : ∃ o, h.get? it = some o ∧ ∀ v, o.data ≠ .cell v := by
  cases t
  · obtain ⟨o, h1, h2, h3⟩ := e
    exact ⟨o, h1, fun v z => by rw [h3] at z; cases z⟩
  · obtain ⟨o, h1, h2, h3⟩ := e
    exact ⟨o, h1, fun v z => by rw [h3] at z; cases z⟩
theorem itQ_at {t : Bool} {h h' : Heap} {it a : Addr} {i : Nat} (e : ItQ t h it a i) (k : ∀ o, h.get? it = some o → h'.get? it = some o) : ItQ t h' it a i := by
  cases t
  · exact Heap.IsListIter.at e k
  · exact Heap.IsTupleIter.at e k
section
variable {X : Cx} {pins : List (Addr × Obj)} {σ : L2.St} {H : Hp} {s : Shared} {a : Addr} {xs ys : List V} {t : Bool}
theorem inv_sq (I : Inv X pins σ H s) (h : SqB X.K t H a xs) : ∃ its : List Value, Vals xs its ∧ IsQ t s.heap a its.toArray ∧ a < s.heap.objs.size := by
  cases t
  · obtain ⟨its, r, p, _⟩ := I.list h
    exact ⟨its, r, p.isList, p.lt⟩
  · obtain ⟨its, r, p, _⟩ := I.tuple h
    exact ⟨its, r, p, by obtain ⟨o, e, _⟩ := p; exact Heap.lt_size e⟩
theorem inv_inj (I : Inv X pins σ H s) (h : SqB X.K t H a xs) (h' : SqB X.K t H a ys) : xs = ys := by
  cases t
  · exact I.list_inj h h'
  · exact I.tuple_inj h h'
end

/-! ### zip -/
def ItzQ (K : Fg) (t1 t2 : Bool) (a b : Addr) : It :=
  ⟨fun i H => ∃ (xs ys : List V) (x y : V), SqB K t1 H a xs ∧ SqB K t2 H b ys ∧ xs[i]? = some x ∧ ys[i]? = some y,
    fun i H v H' => ∃ T x y, v = .ref T ∧ H T = none ∧ H' = upd H T (.tup [x, y]) ∧ (∀ xs, SqB K t1 H a xs → xs[i]? = some x) ∧ ∀ ys, SqB K t2 H b ys → ys[i]? = some y,
    fun i H => ∃ xs ys : List V, SqB K t1 H a xs ∧ SqB K t2 H b ys ∧ i = min xs.length ys.length⟩
theorem get_vals {xs : List V} {us : List Value} {i : Nat} {u : Value} (r : Vals xs us) (e : us[i]? = some u) : ∃ x, xs[i]? = some x ∧ RelV x u := by
  have hl := r.length
  have hi : i < us.length := (List.getElem?_eq_some_iff.mp e).1
  have hx : xs[i]? = some (xs[i]'(by omega)) := List.getElem?_eq_getElem (by omega)
  obtain ⟨u', e', r'⟩ := r.get hx
  rw [e] at e'
  cases e'
  exact ⟨_, hx, r'⟩
theorem turnZ {P : Program} {w : World} {K : Fg} {elts : List Expr} {kk : Nat} {tpos : Pos} {t1 t2 : Bool} {a b z TI TO i1 i2 : Addr} (S : ZipSep2 z TI TO i1 i2 [i1, a] [i2, b]) (na : a ≠ i1) (nb : b ≠ i2) :
    Turn P w K (.Tuple elts kk tpos) (ItzQ K t1 t2 a b) [z, TI, TO, i1, i2] z (fun i h => IsZip h z TI TO .none ∧ IsTupOf2 h TI (.ref i1) (.ref i2) ∧ (∃ x y, IsTupOf2 h TO x y) ∧ ItQ t1 h i1 a i ∧ ItQ t2 h i2 b i) where
  mem := List.mem_cons_self
  obj := fun i h ⟨hz, h1, ⟨x, y, h2⟩, h3, h4⟩ c hc => by
    simp only [List.mem_cons, List.not_mem_nil, or_false] at hc
    rcases hc with e | e | e | e | e <;> subst e
    · exact ⟨_, hz, fun v q => nomatch q⟩
    · exact ⟨_, h1, fun v q => nomatch q⟩
    · exact ⟨_, h2, fun v q => nomatch q⟩
    · exact itQ_obj h3
    · exact itQ_obj h4
  keep := fun i h h' ⟨hz, h1, ⟨x, y, h2⟩, h3, h4⟩ k => ⟨k z (by simp) _ hz, k TI (by simp) _ h1, ⟨x, y, k TO (by simp) _ h2⟩, itQ_at h3 fun o q => k i1 (by simp) o q, itQ_at h4 fun o q => k i2 (by simp) o q⟩
  item := by
    intro X eP ew eK hc i pins s σ H E I hf ⟨hz, h1, h2, h3, h4⟩ ⟨xs, ys, x, y, qx, qy, ex, ey⟩
    subst eP ew eK
    obtain ⟨us, rx, px, lx⟩ := inv_sq I qx
    obtain ⟨ws, ry, py, ly⟩ := inv_sq I qy
    have hh : X.A.in1.handled = none := I.ok.hd hc
    have W := GoesN.zip2 (elts := elts) (x1 := kk) (pos := tpos) (A := X.A) S (drawQ (prog := X.prog) (w := X.w) hh t1 i1 a na us.toArray) (drawQ (prog := X.prog) (w := X.w) hh t2 i2 b nb ws.toArray)
    have hi : i < min us.toArray.size ws.toArray.size := by
      have g1 := (List.getElem?_eq_some_iff.mp ex).1
      have g2 := (List.getElem?_eq_some_iff.mp ey).1
      have g3 := rx.length
      have g4 := ry.length
      rw [List.size_toArray, List.size_toArray]
      omega
    refine W.goes i s (fun u s2 => ∃ v H', Inv X pins σ H' s2 ∧ RelV v u ∧ (ItzQ X.K t1 t2 a b).yld i H v H' ∧ _ ∧ ∀ c ∈ [z, TI, TO, i1, i2], H' c = none) E hi ⟨hz, h1, h2, ⟨h3, px⟩, ⟨h4, py⟩⟩ fun u h' tk ⟨T, u1, u2, eu, nT, g1, g2, hT⟩ st hk htk => ?_
    subst eu
    obtain ⟨v1, e1, r1⟩ := get_vals rx (by simpa using g1)
    obtain ⟨v2, e2, r2⟩ := get_vals ry (by simpa using g2)
    have new : ObjOk X.prog X.w (upd H T (.tup [v1, v2])) h' T (.tup [v1, v2]) := ⟨by show 2 ≤ sizeLine; decide, [u1, u2], .cons r1 (.cons r2 .nil), hT⟩
    have hfw : ∀ c ∈ [z, TO, i1, i2], FpOk X pins H c := fun c m => hf c (by
      simp only [List.mem_cons, List.not_mem_nil, or_false] at m ⊢
      rcases m with e | e | e | e <;> simp [e])
    refine ⟨.ref T, _, I.turnedNew hk hfw nT new, rfl, ⟨T, v1, v2, rfl, I.hok.fresh nT, rfl, fun l hl => by rw [inv_inj I hl qx]; exact e1, fun l hl => by rw [inv_inj I hl qy]; exact e2⟩, ⟨st.1, st.2.1, st.2.2.1, st.2.2.2.1.1, st.2.2.2.2.1⟩, fun c m => ?_⟩
    have lc : c < s.heap.objs.size := by
      simp only [List.mem_cons, List.not_mem_nil, or_false] at m
      obtain ⟨x0, y0, h2⟩ := h2
      obtain ⟨o3, q3, _⟩ := itQ_obj h3
      obtain ⟨o4, q4, _⟩ := itQ_obj h4
      rcases m with e | e | e | e | e <;> subst e
      · exact Heap.lt_size hz
      · exact Heap.lt_size h1
      · exact Heap.lt_size h2
      · exact Heap.lt_size q3
      · exact Heap.lt_size q4
    rw [upd_ne (Nat.ne_of_lt (Nat.lt_of_lt_of_le lc nT))]
    exact (hf c m).1
  done := by
    intro X eP ew eK hc i pins s σ H E I hf ⟨hz, h1, h2, h3, h4⟩ ⟨xs, ys, qx, qy, ei⟩
    subst eP ew eK
    obtain ⟨us, rx, px, lx⟩ := inv_sq I qx
    obtain ⟨ws, ry, py, ly⟩ := inv_sq I qy
    have hh : X.A.in1.handled = none := I.ok.hd hc
    have W := GoesN.zip2 (elts := elts) (x1 := kk) (pos := tpos) (A := X.A) S (drawQ (prog := X.prog) (w := X.w) hh t1 i1 a na us.toArray) (drawQ (prog := X.prog) (w := X.w) hh t2 i2 b nb ws.toArray)
    have en : i = min us.toArray.size ws.toArray.size := by rw [ei, rx.length, ry.length, List.size_toArray, List.size_toArray]
    refine W.stops s (fun s1 => Inv X pins σ H s1) E (by rw [← en]; exact ⟨hz, h1, h2, ⟨h3, px⟩, ⟨h4, py⟩⟩) fun h' tk hk htk => ?_
    refine I.turnedL hk fun c m => hf c ?_
    simp only [List.mem_cons, List.not_mem_nil, or_false] at m ⊢
    rcases m with e | e | e | e <;> simp [e]
  self := fun A i s Q E st h => wpAny_pyIter_zip st.1 h
def iZipQ (K : Fg) (ta : TA) : TI := fun σ H R => ta σ H fun vs H1 => ∃ t1 t2 a b xs ys, vs = [.ref a, .ref b] ∧ SqB K t1 H1 a xs ∧ SqB K t2 H1 b ys ∧ R (ItzQ K t1 t2 a b) H1
theorem pi_zipQ {X : Cx} {e e2 : Expr} {ta : TA} {p pos tpos : Pos} {elts : List Expr} {kk : Nat} (hg : Gl X "zip") (hm : X.mg "zip" = none) (ha : PA X [e, e2] ta)
    (hs : starEach [e, e2] X.env = (false, eval e X.env) :: starEach [e2] X.env := by rfl) (hpl : (backTo pos (starEach [e2] X.env)).any (·.1) = false := by rfl) :
    PI X (.Tuple elts kk tpos) (.Call (.Name "zip" p) [e, e2] [] pos) (iZipQ X.K ta) := by
  refine ⟨fun pins s σ H R I h => ?_⟩
  refine Call_ (ld_blt I hg hm PyProof.Rows.boot_zip (PyProof.Rows.callWith_type1 (thn (ha.run pos pins s σ H _ I h) fun us s1 ⟨vs, H1, I1, r1, t1, t2, a, b, xs, ys, ev, qx, qy, q⟩ => ?_) hs hpl))
  subst ev
  obtain ⟨u1, u2, rfl, ru1, ru2⟩ := vals2 r1
  cases ru1
  cases ru2
  obtain ⟨is1, rx, px, lx⟩ := inv_sq I1 qx
  obtain ⟨is2, ry, py, ly⟩ := inv_sq I1 qy
  refine zip_begins2 (begQ t1 a is1.toArray) (begQ t2 b is2.toArray) px py fun h' hz hTI hTO g1 g2 hsz hk => wpAny_pyIter_zip hz ?_
  have I2 : Inv X pins σ H1 { s1 with heap := h' } := I1.kept (t' := s1.toks) hk
  refine ⟨_, [s1.heap.objs.size + 4, s1.heap.objs.size + 2, s1.heap.objs.size + 3, s1.heap.objs.size, s1.heap.objs.size + 1], _, _, H1, rfl, I2, turnZ (zip_sep2 (N := s1.heap.objs.size) (fp1 := [a]) (fp2 := [b]) (fun c m => by rw [List.mem_singleton.mp m]; exact lx) fun c m => by rw [List.mem_singleton.mp m]; exact ly) (Nat.ne_of_lt lx) (Nat.ne_of_lt (Nat.lt_succ_of_lt ly)),
    ⟨hz, hTI, ⟨_, _, hTO⟩, itQ_new g1, itQ_new g2⟩, fun c m => ?_, q⟩
  have lc : s1.heap.objs.size ≤ c := by
    simp only [List.mem_cons, List.not_mem_nil, or_false] at m
    rcases m with e | e | e | e | e <;> rw [e] <;> first | exact Nat.le_add_right _ _ | exact Nat.le_refl _
  exact I1.fpOk lc (I1.hok.fresh lc)
end Pf

namespace Pf
open PySem PySem.Spec PyProof.Rows L2
/-! ### enumerate -/
def IteQ (K : Fg) (t : Bool) (a : Addr) : It :=
  ⟨fun i H => ∃ (xs : List V) (x : V), SqB K t H a xs ∧ xs[i]? = some x,
    fun i H v H' => ∃ T x, v = .ref T ∧ H T = none ∧ H' = upd H T (.tup [.int (i : Nat), x]) ∧ ∀ xs, SqB K t H a xs → xs[i]? = some x,
    fun i H => ∃ xs : List V, SqB K t H a xs ∧ i = xs.length⟩
theorem turnE {P : Program} {w : World} {K : Fg} {elts : List Expr} {kk : Nat} {tpos : Pos} {t : Bool} {a e it : Addr} (n1 : e ≠ it) (n2 : e ≠ a) (na : a ≠ it) :
    Turn P w K (.Tuple elts kk tpos) (IteQ K t a) [e, it] e (fun i h => (∃ old, IsEnum h e it (i : Nat) old) ∧ ItQ t h it a i) where
  mem := List.mem_cons_self
  obj := fun i h ⟨⟨old, hz⟩, h3⟩ c hc => by
    simp only [List.mem_cons, List.not_mem_nil, or_false] at hc
    rcases hc with q | q <;> subst q
    · exact ⟨_, hz, fun v q => nomatch q⟩
    · exact itQ_obj h3
  keep := fun i h h' ⟨⟨old, hz⟩, h3⟩ k => ⟨⟨old, k e (by simp) _ hz⟩, itQ_at h3 fun o q => k it (by simp) o q⟩
  item := by
    intro X eP ew eK hc i pins s σ H E I hf ⟨⟨old, hz⟩, h3⟩ ⟨xs, x, qx, ex⟩
    subst eP ew eK
    obtain ⟨us, rx, px, lx⟩ := inv_sq I qx
    have hh : X.A.in1.handled = none := I.ok.hd hc
    have W := GoesN.enumFrom (elts := elts) (x1 := kk) (pos := tpos) (A := X.A) 0 (drawQ (prog := X.prog) (w := X.w) hh t it a na us.toArray) e n1 (by simp [n1, n2]) (by simp)
    have hi : i < us.toArray.size := by
      have g1 := (List.getElem?_eq_some_iff.mp ex).1
      have g3 := rx.length
      rw [List.size_toArray]
      omega
    refine W.goes i s (fun u s2 => ∃ v H', Inv X pins σ H' s2 ∧ RelV v u ∧ (IteQ X.K t a).yld i H v H' ∧ _ ∧ ∀ c ∈ [e, it], H' c = none) E hi ⟨⟨old, by rw [Int.zero_add]; exact hz⟩, h3, px⟩ fun u h' tk ⟨T, tt, u1, eu, nT, g1, hT⟩ st hk htk => ?_
    subst eu
    obtain ⟨v1, e1, r1⟩ := get_vals rx (by simpa using g1)
    rw [Int.zero_add] at hT
    have new : ObjOk X.prog X.w (upd H T (.tup [.int (i : Nat), v1])) h' T (.tup [.int (i : Nat), v1]) := ⟨by show 2 ≤ sizeLine; decide, [.int (i : Nat) tt, u1], .cons ⟨tt, rfl⟩ (.cons r1 .nil), hT⟩
    obtain ⟨⟨old', g5⟩, g6, g7⟩ := st
    refine ⟨.ref T, _, I.turnedNew hk hf nT new, rfl, ⟨T, v1, rfl, I.hok.fresh nT, rfl, fun l hl => by rw [inv_inj I hl qx]; exact e1⟩, ⟨⟨old', by rw [Int.zero_add] at g5; exact g5⟩, g6⟩, fun c m => ?_⟩
    have lc : c < s.heap.objs.size := by
      simp only [List.mem_cons, List.not_mem_nil, or_false] at m
      obtain ⟨o3, q3, _⟩ := itQ_obj h3
      rcases m with q | q <;> subst q
      · exact Heap.lt_size hz
      · exact Heap.lt_size q3
    rw [upd_ne (Nat.ne_of_lt (Nat.lt_of_lt_of_le lc nT))]
    exact (hf c m).1
  done := by
    intro X eP ew eK hc i pins s σ H E I hf ⟨⟨old, hz⟩, h3⟩ ⟨xs, qx, ei⟩
    subst eP ew eK
    obtain ⟨us, rx, px, lx⟩ := inv_sq I qx
    have hh : X.A.in1.handled = none := I.ok.hd hc
    have W := GoesN.enumFrom (elts := elts) (x1 := kk) (pos := tpos) (A := X.A) 0 (drawQ (prog := X.prog) (w := X.w) hh t it a na us.toArray) e n1 (by simp [n1, n2]) (by simp)
    have en : i = us.toArray.size := by rw [ei, rx.length, List.size_toArray]
    exact W.stops s (fun s1 => Inv X pins σ H s1) E (by rw [← en]; exact ⟨⟨old, by rw [Int.zero_add]; exact hz⟩, h3, px⟩) fun h' tk hk htk => I.turnedL hk hf
  self := fun A i s Q E st h => let ⟨⟨_, he⟩, _⟩ := st; wpAny_pyIter_enum he h
theorem meets_enumB {v : Value} {o : Obj} {H : Heap → Prop} (B : Begins v o H) :
    Meets (Builtin.«enumerate.__new__» ⟨[.type "enumerate", v], []⟩) (fun _ R s => H s.heap ∧
      R (.ok (.ret (.ref (s.heap.push o).objs.size))) { s with heap := (s.heap.push o).push { cls := .type "enumerate", data := .fields #[.none, .bool false, .ref s.heap.objs.size, rawInt 0, .none, .none] } }) :=
  .of_wp fun prog w A R s h => by
    obtain ⟨hp, g, d, tk, os⟩ := s
    obtain ⟨h1, h⟩ := h
    have hsub := sub_enumerate
    have begun : ∀ {A' : Around} {E : Value → Shared → Prop} {Q : Value → Shared → Prop}, Q (.ref hp.objs.size) ⟨(hp.push o), g, d, tk, os⟩ → wpAny (model prog w) A' (pyIter v) Q E ⟨hp, g, d, tk, os⟩ :=
      fun q => B.iter prog w _ _ ⟨hp, g, d, tk, os⟩ _ h1 q
    wp_walk
    refine wpAny_stack_any fun st => wpAny_pure ?_
    split
    · rename_i c _ _ _ _ _
      cases (c == Value.type "enumerate")
      · wp_walk using begun
        exact ⟨_, rfl, h⟩
      · wp_walk using begun
        exact ⟨_, rfl, h⟩
    · wp_walk using begun
      exact ⟨_, rfl, h⟩
theorem enum1_begins {prog : Program} {w : World} {A : Around} {E : Value → Shared → Prop} {s : Shared} {v : Value} {o : Obj} {H : Heap → Prop} {Q : Value → Shared → Prop} (B : Begins v o H) (h1 : H s.heap)
    (h : ∀ h', IsEnum h' (s.heap.objs.size + 1) s.heap.objs.size 0 .none → h'.get? s.heap.objs.size = some o → (∀ b o, s.heap.get? b = some o → h'.get? b = some o) → Q (.ref (s.heap.objs.size + 1)) { s with heap := h' }) :
    wpAny (model prog w) A (call (.type "enumerate") [v]) Q E s := by
  refine callType_new F.called_enumerate (by decide) (F.typeCall_enumerate_1 _) (F.newCall_enumerate_1 _) (fun obj => F.args_object_init_2 obj _) F.entry_enumerate_new (meets_enumB B) ⟨h1, ?_⟩
  have hz : (s.heap.push o).objs.size = s.heap.objs.size + 1 := Heap.size_push ..
  show _ ∧ _
  rw [hz]
  have he := Heap.get?_push_size (s.heap.push o) (o := { cls := .type "enumerate", data := .fields #[.none, .bool false, .ref s.heap.objs.size, rawInt 0, .none, .none] }) rfl
  rw [hz] at he
  exact ⟨⟨_, he, rfl⟩, h _ he (Heap.get?_push_of_some _ (Heap.get?_push_size _ B.free)) fun b o x => Heap.get?_push_of_some _ (Heap.get?_push_of_some _ x)⟩
def iEnumQ (K : Fg) (ta : TA) : TI := fun σ H R => ta σ H fun vs H1 => ∃ t a xs, vs = [.ref a] ∧ SqB K t H1 a xs ∧ R (IteQ K t a) H1
theorem pi_enumQ {X : Cx} {e : Expr} {ta : TA} {p pos tpos : Pos} {elts : List Expr} {kk : Nat} (hg : Gl X "enumerate") (hm : X.mg "enumerate" = none) (ha : PA X [e] ta) (hs : starEach [e] X.env = [(false, eval e X.env)] := by rfl) :
    PI X (.Tuple elts kk tpos) (.Call (.Name "enumerate" p) [e] [] pos) (iEnumQ X.K ta) := by
  refine ⟨fun pins s σ H R I h => ?_⟩
  refine Call_ (ld_blt I hg hm boot_enumerate (PyProof.Rows.callWith_type1 (thn (ha.run pos pins s σ H _ I h) fun us s1 ⟨vs, H1, I1, r1, t, a, xs, ev, qx, q⟩ => ?_) hs rfl))
  subst ev
  obtain ⟨u1, rfl, ru1⟩ := vals1 r1
  cases ru1
  obtain ⟨is1, rx, px, lx⟩ := inv_sq I1 qx
  refine enum1_begins (begQ t a is1.toArray) px fun h' he g1 hk => wpAny_pyIter_enum he ?_
  have I2 : Inv X pins σ H1 { s1 with heap := h' } := I1.kept (t' := s1.toks) hk
  refine ⟨_, [s1.heap.objs.size + 1, s1.heap.objs.size], _, _, H1, rfl, I2, turnE (Nat.succ_ne_self _) (Nat.ne_of_gt (Nat.lt_succ_of_lt lx)) (Nat.ne_of_lt lx), ⟨⟨_, he⟩, itQ_new g1⟩, fun c m => ?_, q⟩
  have lc : s1.heap.objs.size ≤ c := by
    simp only [List.mem_cons, List.not_mem_nil, or_false] at m
    rcases m with e | e <;> rw [e] <;> first | exact Nat.le_add_right _ _ | exact Nat.le_refl _
  exact I1.fpOk lc (I1.hok.fresh lc)
end Pf
set_option Elab.async false
set_option linter.all false
set_option maxRecDepth 100000
set_option maxHeartbeats 4000000
/-! Pf: statements, targets, walks, loops, comprehensions, methods of lists. -/
namespace Pf
open PySem PySem.Spec PyProof.Rows L2

theorem keepS_refl {kp : List Nat} {σ : L2.St} : KeepS kp σ σ := fun _ _ => rfl
theorem KeepS.trans {kp : List Nat} {σ1 σ2 σ3 : L2.St} (a : KeepS kp σ1 σ2) (b : KeepS kp σ2 σ3) : KeepS kp σ1 σ3 := fun j m => (b j m).trans (a j m)
theorem liftEnd_le {K : Fg} {kp : List Nat} {G G' F : Hp} {σ σ' : L2.St} {E : L2.Ends} (s : Same G G') (k : KeepS kp σ σ') : (liftEnd K kp G F σ E).le (liftEnd K kp G' F σ' E) :=
  ⟨fun e h σ2 G2 H2 s2 k2 r => h σ2 G2 H2 (s.trans s2) (k.trans k2) r, fun o e h v σ2 G2 H2 s2 k2 r => h v σ2 G2 H2 (s.trans s2) (k.trans k2) r,
    fun e h σ2 G2 H2 s2 k2 r => h σ2 G2 H2 (s.trans s2) (k.trans k2) r, fun e h σ2 G2 H2 s2 k2 r => h σ2 G2 H2 (s.trans s2) (k.trans k2) r⟩

/-! ### blocks -/
def rNext : RS := fun E env => E.nx env
def rSeq (r r' : RS) : RS := fun E env => r { E with nx := fun e => r' E e } env
section
variable {X : Cx} {kp : List Nat} {st : Stmt} {rest : List Stmt} {pos : Pos}
theorem qss_nil : QSs X kp [] rNext := ⟨fun A B env l h => l.1 _ h, pss_imp pss_nil fun E σ H ⟨env, G, F, rep, h⟩ => h σ G H idS keepS_refl rep⟩
theorem qss_one {r : RS} (h : QS X kp st r) : QSs X kp [st] r := ⟨h.mono, pss_one h.run⟩
theorem qss_cons {r r' : RS} (h : QS X kp st r) (h' : QSs X kp rest r') : QSs X kp (st :: rest) (rSeq r r') := by
  refine ⟨fun A B env l q => h.mono { A with nx := fun e => r' A e } { B with nx := fun e => r' B e } env ⟨fun e z => h'.mono _ _ _ l z, l.2.1, l.2.2.1, l.2.2.2⟩ q, pss_imp (pss_cons h.run h'.run) ?_⟩
  intro E σ H ⟨env, G, F, rep, q⟩
  exact ⟨env, G, F, rep, h.mono { liftEnd X.K kp G F σ E with nx := fun e => r' (liftEnd X.K kp G F σ E) e } (liftEnd X.K kp G F σ { E with nx := liftS X.K kp r' E }) env ⟨fun e z σ' G' H' s k r => ⟨e, G', F, r, h'.mono _ _ _ (liftEnd_le s k) z⟩, fun o e z => z, fun e z => z, fun e z => z⟩ q⟩
def rPass : RS := fun E env => E.nx env
def rBreak : RS := fun E env => E.bk env
def rCont : RS := fun E env => E.ct env
def rNever : RS := fun _ _ => False
theorem qs_pass : QS X kp (.Pass pos) rPass := ⟨fun A B env l h => l.1 _ h, ps_imp ps_pass fun E σ H ⟨env, G, F, rep, h⟩ => h σ G H idS keepS_refl rep⟩
theorem qs_break : QS X kp (.Break pos) rBreak := ⟨fun A B env l h => l.2.2.1 _ h, ps_imp ps_break fun E σ H ⟨env, G, F, rep, h⟩ => h σ G H idS keepS_refl rep⟩
theorem qs_cont : QS X kp (.Continue pos) rCont := ⟨fun A B env l h => l.2.2.2 _ h, ps_imp ps_continue fun E σ H ⟨env, G, F, rep, h⟩ => h σ G H idS keepS_refl rep⟩
theorem qs_never : QS X kp st rNever := ⟨fun A B env l h => h, ps_imp ps_never fun E σ H ⟨env, G, F, rep, h⟩ => h.elim⟩
def rDrop (ra : RE) : RS := fun E env => ra env fun _ e => E.nx e
def rRet (ra : RE) : RS := fun E env => ra env fun o e => E.rt o e
def rRetN : RS := fun E env => E.rt (.d .none) env
theorem qs_expr {a : Expr} {ra : RE} (h : QE X a ra) (hs : swapsWith a none pos.line X.env = pure false := by rfl) : QS X kp (.Expr a pos) (rDrop ra) := by
  refine ⟨fun A B env l q => h.mono _ _ _ (fun o e z => l.1 _ z) q, ps_imp (ps_expr h.run hs) ?_⟩
  intro E σ H ⟨env, G, F, rep, q⟩
  exact liftO_of h.mono rep q fun o e v G' H' z s r => z σ G' H' s keepS_refl r.rep
theorem qs_ret {a : Expr} {ra : RE} (h : QE X a ra) : QS X kp (.Return (some a) pos) (rRet ra) := by
  refine ⟨fun A B env l q => h.mono _ _ _ (fun o e z => l.2.1 _ _ z) q, ps_imp (ps_ret h.run) ?_⟩
  intro E σ H ⟨env, G, F, rep, q⟩
  exact liftO_of h.mono rep q fun o e v G' H' z s r => z v σ G' H' s keepS_refl r
theorem qs_retN : QS X kp (.Return none pos) rRetN := ⟨fun A B env l h => l.2.1 _ _ h, ps_imp ps_retN fun E σ H ⟨env, G, F, rep, h⟩ => h .non σ G H idS keepS_refl (.of rep .non)⟩
def rIfS (t : RT) (r r' : RS) : RS := fun E env => t env fun b e => if b = true then r E e else r' E e
theorem qs_if {c : Expr} {a b : List Stmt} {t : RT} {r r' : RS} (hc : QT X c t) (ha : QSs X kp a r) (hb : QSs X kp b r') : QS X kp (.If c a b pos) (rIfS t r r') := by
  refine ⟨fun A B env l q => hc.mono _ _ _ (fun o e z => ite_mono (ha.mono _ _ _ l) (hb.mono _ _ _ l) z) q, ps_imp (ps_if hc.run ha.run hb.run) ?_⟩
  intro E σ H ⟨env, G, F, rep, q⟩
  refine liftT_of hc.mono rep q fun b e G' H' z s r => ite_mono (fun z => ?_) (fun z => ?_) z
  · exact ⟨e, G', F, r, ha.mono _ _ _ (liftEnd_le s keepS_refl) z⟩
  · exact ⟨e, G', F, r, hb.mono _ _ _ (liftEnd_le s keepS_refl) z⟩
end

/-! ### stores -/
theorem get_or {α : Type} (l : List α) (i : Nat) : (∃ x, l[i]? = some x) ∨ ∀ x, l.set i x = l := by
  cases e : l[i]? with
  | some x => exact .inl ⟨x, rfl⟩
  | none => exact .inr fun x => List.set_eq_of_length_le (List.getElem?_eq_none_iff.mp e)
theorem RepV.put {K : Fg} {G F H : Hp} {σ : L2.St} {env : Env} {v : V} {o : O} (r : RepV K G F H σ env v o) (i : Nat) : Rep K G F H (σ.set i (some v)) (env.set i (some o)) := by
  obtain ⟨fp, fpv, s, ro, w⟩ := r
  rcases get_or env i with ⟨oo, e⟩ | e
  · obtain ⟨fa, f1, fb, x, e1, e2, e3, g⟩ := s.split e
    subst e1
    refine ⟨_, g G H (some v) (some o) fpv idS (fun _ _ => rfl) ⟨v, rfl, ro⟩, ?_⟩
    have p : (fpv ++ (fa ++ (f1 ++ fb))).Perm (f1 ++ (fa ++ (fpv ++ fb))) := by
      refine (List.Perm.append_left fpv (perm_mid fa f1 fb)).trans ?_
      refine (perm_mid fpv f1 (fa ++ fb)).trans (List.Perm.append_left f1 ?_)
      exact perm_mid fpv fa fb
    exact (w.perm p).sub (List.sublist_append_right _ _)
  · have e' : σ.set i (some v) = σ := List.set_eq_of_length_le (by
      rw [s.len]
      have h := e none
      by_cases hl : env.length ≤ i
      · exact hl
      · have := congrArg (fun l => l[i]?) (e (some (.d .none)))
        have h2 := congrArg (fun l => l[i]?) h
        simp only [List.getElem?_set_self (Nat.lt_of_not_le hl)] at this h2
        rw [← this] at h2
        cases h2)
    rw [e', e]
    exact ⟨fp, s, w.sub (List.sublist_append_right _ _)⟩
theorem keepS_set {kp : List Nat} {σ : L2.St} {i : Nat} {x : Option V} (h : i ∉ kp) : KeepS kp σ (σ.set i x) := fun j m => by
  rw [List.getElem?_set_ne (fun e => h (by rw [e]; exact m))]
def rSet (i : Nat) (ra : RE) : RS := fun E env => ra env fun o e => E.nx (e.set i (some o))
section
variable {X : Cx} {kp : List Nat} {pos : Pos}
theorem qs_set (i : Nat) {x : Str} {a : Expr} {ra : RE} {pos' : Pos} (hN : X.N.Nodup) (h : QE X a ra) (hk : i ∉ kp := by decide) (hi : X.N[i]? = some x := by rfl) (hx : Loc X.env.scope x := by first | exact .inl rfl | exact .inr rfl) (hs : swapsWith a (some (.Name x pos')) pos.line X.env = pure false := by rfl)
    (hf : X.fn x = true ∨ X.env.scope.names.lookup x = some .local := by first | exact .inl rfl | exact .inr rfl | assumption) : QS X kp (.Assign [.Name x pos'] a pos) (rSet i ra) := by
  refine ⟨fun A B env l q => h.mono _ _ _ (fun o e z => l.1 _ z) q, ps_imp (ps_set hN hi hx h.run hs hf) ?_⟩
  intro E σ H ⟨env, G, F, rep, q⟩
  exact liftO_of h.mono rep q fun o e v G' H' z s r => z _ G' H' s (keepS_set hk) (r.put i)
end

/-! ### targets -/
abbrev RG := D → Env → (Env → Prop) → Prop
abbrev RGs := List D → Env → (Env → Prop) → Prop
def MonoG {α : Type} (t : α → Env → (Env → Prop) → Prop) : Prop := ∀ x env (k k' : Env → Prop), (∀ e, k e → k' e) → t x env k → t x env k'
def liftG (K : Fg) (sl : List Nat) (t : RG) : TG := fun v σ H Q => ∃ env G F x, Rep K G F H σ env ∧ Rp K G v x ∧ t x env fun env' => ∀ σ', (∀ j, j ∉ sl → σ'[j]? = σ[j]?) → σ'.length = σ.length → Rep K G F H σ' env' → Q σ' H
def liftGs (K : Fg) (sl : List Nat) (t : RGs) : TGs := fun vs σ H Q => ∃ env G F xs, Rep K G F H σ env ∧ RpAll K G vs xs ∧ t xs env fun env' => ∀ σ', (∀ j, j ∉ sl → σ'[j]? = σ[j]?) → σ'.length = σ.length → Rep K G F H σ' env' → Q σ' H
structure QG (X : Cx) (tg : Expr) (sl : List Nat) (t : RG) : Prop where
  mono : MonoG t
  run : PG X tg (liftG X.K sl t)
structure QGs (X : Cx) (tgs : List Expr) (sl : List Nat) (t : RGs) : Prop where
  mono : MonoG t
  run : PGs X tgs (liftGs X.K sl t)
def rGn (i : Nat) : RG := fun x env k => k (env.set i (some (.d x)))
def rGnil : RGs := fun xs env k => match xs with
  | [] => k env
  | _ => False
def rGcons (t : RG) (ts : RGs) : RGs := fun xs env k => match xs with
  | x :: xs => t x env fun e => ts xs e k
  | _ => False
def rGt (n : Nat) (ts : RGs) : RG := fun x env k => match x with
  | .tuple xs => xs.length = n ∧ ts xs env k
  | _ => False
section
variable {X : Cx} {pos : Pos}
theorem pg_imp {e : Expr} {t t' : TG} (h : PG X e t) (f : ∀ v σ H Q, t' v σ H Q → t v σ H Q) : PG X e t' := ⟨fun pins s σ H v u Q I r q => h.run pins s σ H v u Q I r (f v σ H Q q)⟩
theorem pgs_imp {e : List Expr} {t t' : TGs} (h : PGs X e t) (f : ∀ v σ H Q, t' v σ H Q → t v σ H Q) : PGs X e t' := ⟨fun pins s σ H v u Q I r q => h.run pins s σ H v u Q I r (f v σ H Q q)⟩
theorem qg_name (i : Nat) {x : Str} (hN : X.N.Nodup) (hi : X.N[i]? = some x := by rfl) (hx : Loc X.env.scope x := by first | exact .inl rfl | exact .inr rfl) (hf : X.fn x = true ∨ X.env.scope.names.lookup x = some .local := by first | exact .inl rfl | exact .inr rfl | assumption) : QG X (.Name x pos) [i] (rGn i) := by
  refine ⟨fun x env k k' f h => f _ h, pg_imp (pg_name hN hi hx hf) ?_⟩
  intro v σ H Q ⟨env, G, F, x, rep, d, h⟩
  refine h _ (fun j m => ?_) (List.length_set ..) ((RepV.of rep d).put i)
  rw [List.getElem?_set_ne (fun e => m (by simp [e]))]
theorem qgs_nil : QGs X [] [] rGnil := by
  refine ⟨fun xs env k k' f h => ?_, pgs_imp pgs_nil ?_⟩
  · cases xs with
    | nil => exact f _ h
    | cons _ _ => exact h
  · intro vs σ H Q ⟨env, G, F, xs, rep, d, h⟩
    cases d with
    | nil => exact ⟨rfl, h σ (fun _ _ => rfl) rfl rep⟩
    | cons _ _ => exact h.elim
theorem qgs_cons {e : Expr} {es : List Expr} {sl sls : List Nat} {t : RG} {ts : RGs} (h : QG X e sl t) (h' : QGs X es sls ts) (hs : (assignEach (e :: es) X.env).map (·.2) = assign e X.env :: (assignEach es X.env).map (·.2) := by rfl) : QGs X (e :: es) (sl ++ sls) (rGcons t ts) := by
  refine ⟨fun xs env k k' f q => ?_, pgs_imp (pgs_cons h.run h'.run hs) ?_⟩
  · cases xs with
    | nil => exact q
    | cons x xs => exact h.mono _ _ _ _ (fun e z => h'.mono _ _ _ _ f z) q
  · intro vs σ H Q ⟨env, G, F, xs, rep, d, q⟩
    cases d with
    | nil => exact q.elim
    | cons d ds =>
      refine ⟨_, _, rfl, env, G, F, _, rep, d, h.mono _ _ _ _ (fun e z σ1 k1 l1 rep1 => ⟨e, G, F, _, rep1, ds, h'.mono _ _ _ _ (fun e2 z2 σ2 k2 l2 rep2 => z2 σ2 (fun j m => ?_) (l2.trans l1) rep2) z⟩) q⟩
      rw [List.mem_append, not_or] at m
      rw [k2 j m.2, k1 j m.1]
theorem qg_tup {es : List Expr} {k : Nat} {sl : List Nat} {ts : RGs} (n : Nat) (hc : X.calm = true) (h : QGs X es sl ts) (hn : (assignEach es X.env).length = n := by rfl) (hst : (assignEach es X.env).findIdx? (·.1) = none := by rfl) : QG X (.Tuple es k pos) sl (rGt n ts) := by
  refine ⟨fun x env k k' f q => ?_, pg_imp (pg_tup hc h.run hn hst) ?_⟩
  · unfold rGt at *
    split at q
    · exact ⟨q.1, h.mono _ _ _ _ f q.2⟩
    · exact q
  · intro v σ H Q ⟨env, G, F, x, rep, d, q⟩
    unfold rGt at q
    split at q
    · cases d with
      | tup g ds => exact ⟨_, _, rfl, (tq_mono rep.gh g).sq, by rw [rps_len ds]; exact q.1, env, G, F, _, rep, ds, q.2⟩
    · exact q.elim
end
/-- a, b = e, where e gives a tuple -/
def rAsgT (ra : RV) (t : RG) : RS := fun E env => ra env fun x e => t x e E.nx
theorem qs_asgT {X : Cx} {kp : List Nat} {pos : Pos} {tg a : Expr} {ra : RV} {sl : List Nat} {t : RG} (h : QV X a ra) (hg : QG X tg sl t) (hk : ∀ j ∈ kp, j ∉ sl := by decide) (hs : swapsWithSole [tg] a pos.line X.env = pure false := by rfl) (hw : swappedStores [tg] a X.env = pure none := by rfl)
    (h1 : (assignEach [tg] X.env).map (·.2) = [assign tg X.env] := by rfl) : QS X kp (.Assign [tg] a pos) (rAsgT ra t) := by
  refine ⟨fun A B env l q => h.mono _ _ _ (fun o e z => hg.mono _ _ _ _ l.1 z) q, ps_imp (ps_asg h.run hg.run hs hw h1) ?_⟩
  intro E σ H ⟨env, G, F, rep, q⟩
  refine liftV_of h.mono rep q fun x e v G' H' z s r d => ⟨e, G', F, x, r, d, hg.mono _ _ _ _ (fun e z σ' k l r' => z σ' G' H' s (fun j m => k j (hk j m)) r') z⟩
end Pf
set_option Elab.async false
set_option linter.all false
set_option maxRecDepth 100000
set_option maxHeartbeats 4000000
/-! Pf: what is walked; for, while, comprehensions; a list's items and methods. -/
namespace Pf
open PySem PySem.Spec PyProof.Rows L2

/-! ### lists that change -/
section
variable {K : Fg} {G F H : Hp} {σ : L2.St} {env : Env}
theorem Rep.mut {xs : List D} {k : Nat} (r : Rep K G F H σ env) (h : env[k]? = some (some (.own xs))) : ∃ p vs, σ[k]? = some (some (.ref p)) ∧ H p = some (.lst vs) ∧ RpAll K G vs xs ∧
    ∀ vs' xs', RpAll K G vs' xs' → Rep K G F (upd H p (.lst vs')) σ (env.set k (some (.own xs'))) := by
  obtain ⟨fp, s, w⟩ := r
  obtain ⟨fa, f1, fb, x, e1, e2, ⟨v, rfl, p, vs, rfl, rfl, hp, hd⟩, g⟩ := s.split h
  subst e1
  refine ⟨p, vs, e2, hp, hd, fun vs' xs' hd' => ?_⟩
  have mp : p ∈ fa ++ ([p] ++ fb) := by simp
  have hG : G p = none := w.pg p mp
  have hF : F p = none := w.pf p mp
  have nd := List.nodup_append.mp w.nd
  have nd2 := nd.2.1
  rw [List.singleton_append, List.nodup_cons] at nd2
  have hn : ∀ a ∈ fa ++ fb, a ≠ p := fun a m e => by
    subst e
    rcases List.mem_append.mp m with m | m
    · exact nd.2.2 a m a (by simp) rfl
    · exact nd2.1 m
  have s2 := g G (upd H p (.lst vs')) (some (.ref p)) (some (.own xs')) [p] idS (fun a m => upd_ne (hn a m)) ⟨_, rfl, p, vs', rfl, rfl, upd_same, hd'⟩
  rw [set_self e2] at s2
  refine ⟨_, s2, fun a o e => ?_, fun a o e => ?_, w.gf, w.nd, w.pg, w.pf⟩
  · rw [upd_ne (fun z => by rw [z, hG] at e; cases e)]
    exact w.gh a o e
  · rw [upd_ne (fun z => by rw [z, hF] at e; cases e)]
    exact w.fh a o e
end
/-- the list in slot k -/
def ownAt (e : Env) (k : Nat) (c : List D → Prop) : Prop := match e[k]? with
  | some (some (.own xs)) => c xs
  | _ => False
theorem ownAt.mono {e : Env} {k : Nat} {c c' : List D → Prop} (f : ∀ xs, c xs → c' xs) (h : ownAt e k c) : ownAt e k c' := by
  unfold ownAt at *
  split at h
  · exact f _ h
  · exact h.elim
theorem ownAt.get {e : Env} {k : Nat} {c : List D → Prop} (h : ownAt e k c) : ∃ xs, e[k]? = some (some (.own xs)) ∧ c xs := by
  unfold ownAt at h
  split at h
  · rename_i xs q
    exact ⟨xs, q, h⟩
  · exact h.elim
def setAt (e : Env) (k : Nat) (j y : D) (c : Env → Prop) : Prop := match j with
  | .int i => ownAt e k fun xs => ∃ n, ixN xs.length i = some n ∧ c (e.set k (some (.own (xs.set n y))))
  | _ => False
theorem setAt.mono {e : Env} {k : Nat} {j y : D} {c c' : Env → Prop} (f : ∀ e, c e → c' e) (h : setAt e k j y c) : setAt e k j y c' := by
  unfold setAt at *
  split at h
  · exact h.mono fun xs ⟨n, a, b⟩ => ⟨n, a, f _ b⟩
  · exact h.elim
/-- x[j] = e -/
def rSetIx (k : Nat) (re ri : RV) : RS := fun E env => re env fun y e1 => ownAt e1 k fun _ => ri e1 fun j e2 => setAt e2 k j y E.nx
section
variable {X : Cx} {kp : List Nat} {pos : Pos}
theorem qs_setIx (k : Nat) {x : Str} {a i : Expr} {re ri : RV} {px tp : Pos} (he : QV X a re) (hi : QV X i ri) (hN : X.N[k]? = some x := by rfl) (hv : Vis X.env.scope x := by first | exact Or.inl rfl | exact Or.inr (Or.inl rfl) | exact Or.inr (Or.inr rfl)) (hd : (x == ("__debug__" : Str)) = false := by decide)
    (hcd : (x == ("__classdict__" : Str)) = false := by decide)
    (ha : ∀ v, assign (.Subscript (.Name x px) i tp) X.env v = (do
      let ov ← holding [v] (eval (.Name x px) X.env)
      let iv ← holding [v, ov] (eval i X.env)
      standAt tp
      holding [v, ov, iv] (setItem ov iv v)
      release [v, ov, iv] []) := by intro _; rfl)
    (hs : swapsWithSole [.Subscript (.Name x px) i tp] a pos.line X.env = pure false := by rfl) (hw : swappedStores [.Subscript (.Name x px) i tp] a X.env = pure none := by rfl)
    (h1 : (assignEach [.Subscript (.Name x px) i tp] X.env).map (·.2) = [assign (.Subscript (.Name x px) i tp) X.env] := by rfl) : QS X kp (.Assign [.Subscript (.Name x px) i tp] a pos) (rSetIx k re ri) := by
  refine ⟨fun A B env l q => he.mono _ _ _ (fun y e z => z.mono fun xs z => hi.mono _ _ _ (fun j e z => z.mono l.1) z) q, ps_imp (ps_asg he.run (pg_sub (pe_var hN hv hd hcd) hi.run set_list ha) hs hw h1) ?_⟩
  intro E σ H ⟨env, G, F, rep, q⟩
  refine liftV_of he.mono rep q fun y e1 v G1 H1 h1 s1 rep1 d1 => ?_
  obtain ⟨xs, g1, h1⟩ := h1.get
  obtain ⟨p, vs, g2, g3, g4, _⟩ := rep1.mut g1
  refine ⟨.ref p, g2, ?_⟩
  refine liftV_of hi.mono rep1 h1 fun j e2 u G2 H2 h2 s2 rep2 d2 => ?_
  unfold setAt at h2
  split at h2
  · cases d2
    obtain ⟨ys, g5, n, g6, h3⟩ := h2.get
    obtain ⟨p', ws, g7, g8, g9, g10⟩ := rep2.mut g5
    rw [g2] at g7
    cases g7
    refine ⟨p, ws, _, n, rfl, rfl, g8, by rw [rps_len g9]; exact g6, ?_⟩
    exact h3 σ G2 _ (s1.trans s2) keepS_refl (g10 _ _ (rps_set (rp_mono s2 y d1) n g9))
  · exact h2.elim
/-- x[i], x[j] = e, f -/
def rSwap (k : Nat) (ra ri1 ri2 : RV) : RS := fun E env => ra env fun t e1 => match t with
  | .tuple [a, b] => ownAt e1 k fun _ => ri1 e1 fun j1 e2 => setAt e2 k j1 a fun e3 => ownAt e3 k fun _ => ri2 e3 fun j2 e4 => setAt e4 k j2 b E.nx
  | _ => False
theorem qs_swap (k : Nat) {x : Str} {a i1 i2 : Expr} {ra ri1 ri2 : RV} {px px2 tp tp2 tt : Pos} {kk : Nat} (hc : X.calm = true) (he : QV X a ra) (hi1 : QV X i1 ri1) (hi2 : QV X i2 ri2) (hN : X.N[k]? = some x := by rfl) (hv : Vis X.env.scope x := by first | exact Or.inl rfl | exact Or.inr (Or.inl rfl) | exact Or.inr (Or.inr rfl)) (hd : (x == ("__debug__" : Str)) = false := by decide)
    (hcd : (x == ("__classdict__" : Str)) = false := by decide)
    (ha : ∀ v, assign (.Subscript (.Name x px) i1 tp) X.env v = (do
      let ov ← holding [v] (eval (.Name x px) X.env)
      let iv ← holding [v, ov] (eval i1 X.env)
      standAt tp
      holding [v, ov, iv] (setItem ov iv v)
      release [v, ov, iv] []) := by intro _; rfl)
    (ha2 : ∀ v, assign (.Subscript (.Name x px2) i2 tp2) X.env v = (do
      let ov ← holding [v] (eval (.Name x px2) X.env)
      let iv ← holding [v, ov] (eval i2 X.env)
      standAt tp2
      holding [v, ov, iv] (setItem ov iv v)
      release [v, ov, iv] []) := by intro _; rfl)
    (hs1 : (assignEach [.Subscript (.Name x px) i1 tp, .Subscript (.Name x px2) i2 tp2] X.env).map (·.2) = assign (.Subscript (.Name x px) i1 tp) X.env :: (assignEach [.Subscript (.Name x px2) i2 tp2] X.env).map (·.2) := by rfl)
    (hs2 : (assignEach [.Subscript (.Name x px2) i2 tp2] X.env).map (·.2) = assign (.Subscript (.Name x px2) i2 tp2) X.env :: (assignEach [] X.env).map (·.2) := by rfl)
    (hn : (assignEach [.Subscript (.Name x px) i1 tp, .Subscript (.Name x px2) i2 tp2] X.env).length = 2 := by rfl) (hst : (assignEach [.Subscript (.Name x px) i1 tp, .Subscript (.Name x px2) i2 tp2] X.env).findIdx? (·.1) = none := by rfl)
    (hs : swapsWithSole [.Tuple [.Subscript (.Name x px) i1 tp, .Subscript (.Name x px2) i2 tp2] kk tt] a pos.line X.env = pure false := by rfl) (hw : swappedStores [.Tuple [.Subscript (.Name x px) i1 tp, .Subscript (.Name x px2) i2 tp2] kk tt] a X.env = pure none := by rfl)
    (h1 : (assignEach [.Tuple [.Subscript (.Name x px) i1 tp, .Subscript (.Name x px2) i2 tp2] kk tt] X.env).map (·.2) = [assign (.Tuple [.Subscript (.Name x px) i1 tp, .Subscript (.Name x px2) i2 tp2] kk tt) X.env] := by rfl) :
    QS X kp (.Assign [.Tuple [.Subscript (.Name x px) i1 tp, .Subscript (.Name x px2) i2 tp2] kk tt] a pos) (rSwap k ra ri1 ri2) := by
  refine ⟨fun A B env l q => he.mono _ _ _ (fun y e z => ?_) q, ps_imp (ps_asg he.run (pg_tup hc (pgs_cons (pg_sub (pe_var hN hv hd hcd) hi1.run set_list ha) (pgs_cons (pg_sub (pe_var hN hv hd hcd) hi2.run set_list ha2) pgs_nil hs2) hs1) hn hst) hs hw h1) ?_⟩
  · split at z
    · exact z.mono fun xs z => hi1.mono _ _ _ (fun j e z => z.mono fun e z => z.mono fun xs z => hi2.mono _ _ _ (fun j e z => z.mono l.1) z) z
    · exact z
  intro E σ H ⟨env, G, F, rep, q⟩
  refine liftV_of he.mono rep q fun y e1 v G1 H1 h1 s1 rep1 d1 => ?_
  split at h1
  · rename_i a b
    cases d1 with
    | tup hT ds =>
      rename_i pT us
      cases ds with
      | cons da ds =>
        rename_i va us
        cases ds with
        | cons db ds =>
          rename_i vb us
          cases ds
          refine ⟨pT, _, rfl, (tq_mono rep1.gh hT).sq, rfl, va, _, rfl, ?_⟩
          obtain ⟨xs, g1, h1⟩ := h1.get
          obtain ⟨p, vs, g2, g3, g4, _⟩ := rep1.mut g1
          refine ⟨.ref p, g2, ?_⟩
          refine liftV_of hi1.mono rep1 h1 fun j e2 u G2 H2 h2 s2 rep2 d2 => ?_
          unfold setAt at h2
          split at h2
          · cases d2
            obtain ⟨ys, g5, n, g6, h3⟩ := h2.get
            obtain ⟨p', ws, g7, g8, g9, g10⟩ := rep2.mut g5
            rw [g2] at g7
            cases g7
            refine ⟨p, ws, _, n, rfl, rfl, g8, by rw [rps_len g9]; exact g6, vb, [], rfl, ?_⟩
            have rep3 := g10 _ _ (rps_set (rp_mono s2 a da) n g9)
            obtain ⟨zs, g11, h4⟩ := h3.get
            refine ⟨.ref p, g2, ?_⟩
            refine liftV_of hi2.mono rep3 h4 fun j2 e4 u2 G4 H4 h5 s4 rep4 d4 => ?_
            unfold setAt at h5
            split at h5
            · cases d4
              obtain ⟨ys2, g12, n2, g13, h6⟩ := h5.get
              obtain ⟨p2, ws2, g14, g15, g16, g17⟩ := rep4.mut g12
              rw [g2] at g14
              cases g14
              refine ⟨p, ws2, _, n2, rfl, rfl, g15, by rw [rps_len g16]; exact g13, rfl, ?_⟩
              exact h6 σ G4 _ ((s1.trans s2).trans s4) keepS_refl (g17 _ _ (rps_set (rp_mono (s2.trans s4) b db) n2 g16))
            · exact h5.elim
          · exact h2.elim
  · exact h1.elim

/-! ### methods of a list -/
theorem ty_list {K : Fg} {H : Hp} {p : Addr} {vs : List V} (h : H p = some (.lst vs)) : tyV K "list" (.ref p) H := .inl ⟨rfl, vs, .inl (.inl h)⟩
/-- x.append(e) -/
def rApp (k : Nat) (re : RV) : RE := fun env Q => ownAt env k fun _ => re env fun y e => ownAt e k fun xs => xs.length < sizeLine ∧ Q (.d .none) (e.set k (some (.own (xs ++ [y]))))
theorem qe_append (k : Nat) {x : Str} {a : Expr} {re : RV} {px apos cpos : Pos} (he : QV X a re) (hN : X.N[k]? = some x := by rfl) (hv : Vis X.env.scope x := by first | exact Or.inl rfl | exact Or.inr (Or.inl rfl) | exact Or.inr (Or.inr rfl)) (hd : (x == ("__debug__" : Str)) = false := by decide)
    (hcd : (x == ("__classdict__" : Str)) = false := by decide) (hbase : attributeBase (.Name x px) "append" X.env (eval (.Name x px) X.env) = eval (.Name x px) X.env := by rfl)
    (hfew : ((backTo cpos (starEach [a] X.env)).all (fun x => !x.1) && (backToKw cpos (keywordEach [] X.env)).all (fun x => x.1.isSome) && decide (([a] : List Expr).length + ([] : List Keyword).length + (if ([] : List Keyword).isEmpty then 0 else 1) < 30)) = true := by rfl)
    (hline : (apos.endLine == cpos.line) = true := by rfl) (hs : starEach [a] X.env = (false, eval a X.env) :: starEach [] X.env := by rfl) (hplain : (backTo cpos (starEach [] X.env)).any (·.1) = false := by rfl) :
    QE X (.Call (.Attribute (.Name x px) "append" apos) [a] [] cpos) (rApp k re) := by
  refine ⟨fun env Q Q' f q => q.mono fun xs z => he.mono _ _ _ (fun y e z => z.mono fun xs z => ⟨z.1, f _ _ z.2⟩) z, pe_imp (pe_bm PySem.F.plainAttrs_list PySem.F.slot_list_append PySem.F.type_list_append mt_append (pe_var hN hv hd hcd) (pa_cons he.run pa_nil hs) hbase hfew hline hs hplain) ?_⟩
  intro σ H Q ⟨env, G, F, rep, q⟩
  obtain ⟨xs, g1, h1⟩ := q.get
  obtain ⟨p, vs, g2, g3, g4, _⟩ := rep.mut g1
  refine ⟨.ref p, g2, ty_list g3, ?_⟩
  refine liftV_of he.mono rep h1 fun y e v G1 H1 h1 s1 rep1 d1 => ?_
  obtain ⟨ys, g5, h2, h3⟩ := h1.get
  obtain ⟨p', ws, g6, g7, g8, g9⟩ := rep1.mut g5
  rw [g2] at g6
  cases g6
  exact ⟨p, ws, v, rfl, rfl, g7, by rw [rps_len g8]; exact h2, h3 .non G1 _ s1 (.of (g9 _ _ (rps_append g8 (.cons d1 .nil))) .non)⟩
/-- x.insert(i, e) -/
def rIns (k : Nat) (ri re : RV) : RE := fun env Q => ownAt env k fun _ => ri env fun j e1 => re e1 fun y e => match j with
  | .int i => ownAt e k fun xs => xs.length < sizeLine ∧ 0 ≤ i ∧ i < 2 ^ 63 ∧ Q (.d .none) (e.set k (some (.own (xs.take i.toNat ++ [y] ++ xs.drop i.toNat))))
  | _ => False
theorem qe_insert (k : Nat) {x : Str} {a i : Expr} {re ri : RV} {px apos cpos : Pos} (hi : QV X i ri) (he : QV X a re) (hN : X.N[k]? = some x := by rfl) (hv : Vis X.env.scope x := by first | exact Or.inl rfl | exact Or.inr (Or.inl rfl) | exact Or.inr (Or.inr rfl)) (hd : (x == ("__debug__" : Str)) = false := by decide)
    (hcd : (x == ("__classdict__" : Str)) = false := by decide) (hbase : attributeBase (.Name x px) "insert" X.env (eval (.Name x px) X.env) = eval (.Name x px) X.env := by rfl)
    (hfew : ((backTo cpos (starEach [i, a] X.env)).all (fun x => !x.1) && (backToKw cpos (keywordEach [] X.env)).all (fun x => x.1.isSome) && decide (([i, a] : List Expr).length + ([] : List Keyword).length + (if ([] : List Keyword).isEmpty then 0 else 1) < 30)) = true := by rfl)
    (hline : (apos.endLine == cpos.line) = true := by rfl) (hs : starEach [i, a] X.env = (false, eval i X.env) :: starEach [a] X.env := by rfl) (hs2 : starEach [a] X.env = (false, eval a X.env) :: starEach [] X.env := by rfl) (hplain : (backTo cpos (starEach [a] X.env)).any (·.1) = false := by rfl) :
    QE X (.Call (.Attribute (.Name x px) "insert" apos) [i, a] [] cpos) (rIns k ri re) := by
  refine ⟨fun env Q Q' f q => q.mono fun xs z => hi.mono _ _ _ (fun j e z => he.mono _ _ _ (fun y e z => ?_) z) z, pe_imp (pe_bm PySem.F.plainAttrs_list PySem.F.slot_list_insert PySem.F.type_list_insert mt_insert (pe_var hN hv hd hcd) (pa_cons hi.run (pa_cons he.run pa_nil hs2) hs) hbase hfew hline hs hplain) ?_⟩
  · split at z
    · exact z.mono fun xs z => ⟨z.1, z.2.1, z.2.2.1, f _ _ z.2.2.2⟩
    · exact z
  intro σ H Q ⟨env, G, F, rep, q⟩
  obtain ⟨xs, g1, h1⟩ := q.get
  obtain ⟨p, vs, g2, g3, g4, _⟩ := rep.mut g1
  refine ⟨.ref p, g2, ty_list g3, ?_⟩
  refine liftV_of hi.mono rep h1 fun j e0 u G0 H0 h0 s0 rep0 d0 => ?_
  refine liftV_of he.mono rep0 h0 fun y e v G1 H1 h1 s1 rep1 d1 => ?_
  split at h1
  · cases d0
    obtain ⟨ys, g5, h2, h3, h4, h5⟩ := h1.get
    obtain ⟨p', ws, g6, g7, g8, g9⟩ := rep1.mut g5
    rw [g2] at g6
    cases g6
    exact ⟨p, ws, _, v, rfl, rfl, g7, by rw [rps_len g8]; exact h2, h3, h4, h5 .non G1 _ (s0.trans s1) (.of (g9 _ _ (rps_append (rps_append (rps_take _ g8) (.cons d1 .nil)) (rps_drop _ g8))) .non)⟩
  · exact h1.elim
/-- x.pop() -/
def rPop0 (k : Nat) : RE := fun env Q => ownAt env k fun xs => ∃ y, xs[xs.length - 1]? = some y ∧ Q (.d y) (env.set k (some (.own xs.dropLast)))
theorem rps_dropLast {K : Fg} {G : Hp} {xs : List D} {vs : List V} (h : RpAll K G vs xs) : RpAll K G vs.dropLast xs.dropLast := by
  rw [List.dropLast_eq_take, List.dropLast_eq_take, rps_len h]
  exact rps_take _ h
theorem qe_pop (k : Nat) {x : Str} {px apos cpos : Pos} (hN : X.N[k]? = some x := by rfl) (hv : Vis X.env.scope x := by first | exact Or.inl rfl | exact Or.inr (Or.inl rfl) | exact Or.inr (Or.inr rfl)) (hd : (x == ("__debug__" : Str)) = false := by decide)
    (hcd : (x == ("__classdict__" : Str)) = false := by decide) (hbase : attributeBase (.Name x px) "pop" X.env (eval (.Name x px) X.env) = eval (.Name x px) X.env := by rfl) (hline : (apos.endLine == cpos.line) = true := by rfl) :
    QE X (.Call (.Attribute (.Name x px) "pop" apos) [] [] cpos) (rPop0 k) := by
  refine ⟨fun env Q Q' f q => q.mono fun xs ⟨y, a, b⟩ => ⟨y, a, f _ _ b⟩, pe_imp (pe_bm0 PySem.F.plainAttrs_list PySem.F.slot_list_pop PySem.F.type_list_pop mt_pop (pe_var hN hv hd hcd) hbase hline) ?_⟩
  intro σ H Q ⟨env, G, F, rep, q⟩
  obtain ⟨xs, g1, y, h1, h2⟩ := q.get
  obtain ⟨p, vs, g2, g3, g4, g5⟩ := rep.mut g1
  obtain ⟨v, g6, g7⟩ := rps_get g4 h1
  exact ⟨.ref p, g2, ty_list g3, p, vs, v, rfl, rfl, g3, by rw [rps_len g4]; exact g6, h2 v G _ idS (.of (g5 _ _ (rps_dropLast g4)) g7)⟩
/-- x.pop(i) -/
def rPopI (k : Nat) (ri : RV) : RE := fun env Q => ownAt env k fun _ => ri env fun j e => match j with
  | .int i => ownAt e k fun xs => ∃ n y, -(2 ^ 63) ≤ i ∧ i < 2 ^ 63 ∧ seqIndex? i xs.length = some n ∧ xs[n]? = some y ∧ Q (.d y) (e.set k (some (.own (xs.eraseIdx n))))
  | _ => False
theorem qe_popI (k : Nat) {x : Str} {i : Expr} {ri : RV} {px apos cpos : Pos} (hi : QV X i ri) (hN : X.N[k]? = some x := by rfl) (hv : Vis X.env.scope x := by first | exact Or.inl rfl | exact Or.inr (Or.inl rfl) | exact Or.inr (Or.inr rfl)) (hd : (x == ("__debug__" : Str)) = false := by decide)
    (hcd : (x == ("__classdict__" : Str)) = false := by decide) (hbase : attributeBase (.Name x px) "pop" X.env (eval (.Name x px) X.env) = eval (.Name x px) X.env := by rfl)
    (hfew : ((backTo cpos (starEach [i] X.env)).all (fun x => !x.1) && (backToKw cpos (keywordEach [] X.env)).all (fun x => x.1.isSome) && decide (([i] : List Expr).length + ([] : List Keyword).length + (if ([] : List Keyword).isEmpty then 0 else 1) < 30)) = true := by rfl)
    (hline : (apos.endLine == cpos.line) = true := by rfl) (hs : starEach [i] X.env = (false, eval i X.env) :: starEach [] X.env := by rfl) (hplain : (backTo cpos (starEach [] X.env)).any (·.1) = false := by rfl) :
    QE X (.Call (.Attribute (.Name x px) "pop" apos) [i] [] cpos) (rPopI k ri) := by
  refine ⟨fun env Q Q' f q => q.mono fun xs z => hi.mono _ _ _ (fun j e z => ?_) z, pe_imp (pe_bm PySem.F.plainAttrs_list PySem.F.slot_list_pop PySem.F.type_list_pop mt_popAt (pe_var hN hv hd hcd) (pa_cons hi.run pa_nil hs) hbase hfew hline hs hplain) ?_⟩
  · split at z
    · exact z.mono fun xs ⟨n, y, a, b, c, d, z⟩ => ⟨n, y, a, b, c, d, f _ _ z⟩
    · exact z
  intro σ H Q ⟨env, G, F, rep, q⟩
  obtain ⟨xs, g1, h1⟩ := q.get
  obtain ⟨p, vs, g2, g3, g4, _⟩ := rep.mut g1
  refine ⟨.ref p, g2, ty_list g3, ?_⟩
  refine liftV_of hi.mono rep h1 fun j e v G1 H1 h1 s1 rep1 d1 => ?_
  split at h1
  · cases d1
    obtain ⟨ys, g5, n, y, h2, h3, h4, h5, h6⟩ := h1.get
    obtain ⟨p', ws, g6, g7, g8, g9⟩ := rep1.mut g5
    rw [g2] at g6
    cases g6
    obtain ⟨w, g10, g11⟩ := rps_get g8 h5
    exact ⟨p, ws, _, n, w, rfl, rfl, g7, h2, h3, by rw [rps_len g8]; exact h4, g10, h6 w G1 _ s1 (.of (g9 _ _ (rps_erase n g8)) g11)⟩
  · exact h1.elim
end
end Pf
set_option Elab.async false
set_option linter.all false
set_option maxRecDepth 100000
set_option maxHeartbeats 4000000
/-! Pf: what is walked; for, while, comprehensions. -/
namespace Pf
open PySem PySem.Spec PyProof.Rows L2

/-- an iterator that gives the items xs while what stands for ever (G0) stands -/
structure Walks (K : Fg) (J : It) (xs : List D) (G0 : Hp) : Prop where
  go : ∀ i H, i < xs.length → Same G0 H → J.go i H
  stop : ∀ H, Same G0 H → J.stop xs.length H
  yld : ∀ i H v H', i < xs.length → Same G0 H → J.yld i H v H' → ∃ x, xs[i]? = some x ∧ H' = H ∧ Rp K G0 v x
/-- .. that gives tuples of the items xss -/
structure WalksT (K : Fg) (J : It) (xss : List (List D)) (G0 : Hp) : Prop where
  go : ∀ i H, i < xss.length → Same G0 H → J.go i H
  stop : ∀ H, Same G0 H → J.stop xss.length H
  yld : ∀ i H v H', i < xss.length → Same G0 H → J.yld i H v H' → ∃ xs T vs, xss[i]? = some xs ∧ v = .ref T ∧ H T = none ∧ H' = upd H T (.tup vs) ∧ RpAll K G0 vs xs
abbrev RF := Env → (List D → Env → Prop) → Prop
abbrev RFT := Env → (List (List D) → Env → Prop) → Prop
/-- what a for walks: its items; its tuples of items -/
structure QF (X : Cx) (tg iter : Expr) (r : RF) : Prop where
  mono : MonoK r
  run : ∃ wi, PI X tg iter wi ∧ ∀ σ H R env G F Q0, Rep X.K G F H σ env → r env Q0 → (∀ J xs env' G' H', Q0 xs env' → Same G G' → Rep X.K G' F H' σ env' → Walks X.K J xs G' → R J H') → wi σ H R
structure QFT (X : Cx) (tg iter : Expr) (r : RFT) : Prop where
  mono : MonoK r
  run : ∃ wi, PI X tg iter wi ∧ ∀ σ H R env G F Q0, Rep X.K G F H σ env → r env Q0 → (∀ J xs env' G' H', Q0 xs env' → Same G G' → Rep X.K G' F H' σ env' → WalksT X.K J xs G' → R J H') → wi σ H R

/-! ### lists and tuples, ranges -/
def ItsQ (K : Fg) (t : Bool) (a : Addr) : It := match t with
  | false => Itl K a
  | true => Itt K a
def iSeq (K : Fg) (tl : TE) : TI := fun σ H R => tl σ H fun x H1 => ∃ t a xs, x = .ref a ∧ SqB K t H1 a xs ∧ R (ItsQ K t a) H1
theorem pi_seq {X : Cx} {tg l : Expr} {tl : TE} (hl : PE X l tl) : PI X tg l (iSeq X.K tl) := by
  refine ⟨fun pins s σ H R I h => thn (hl.run pins s σ H _ I h) fun v s1 ⟨x, H1, I1, r1, t, a, xs, ex, hq, q⟩ => ?_⟩
  subst ex
  cases r1
  have fr : ∀ b ∈ [s1.heap.objs.size], FpOk X pins H1 b := fun b hb => by
    rw [List.mem_singleton.mp hb]
    exact I1.fpOk (Nat.le_refl _) (I1.hok.fresh (Nat.le_refl _))
  cases t
  · obtain ⟨its, rv, p, hz⟩ := I1.list hq
    refine wpAny_pyIter_list p.isList ?_
    exact ⟨s1.heap.objs.size, [s1.heap.objs.size], _, _, H1, rfl, I1.kept (t' := s1.toks) fun b o e => Heap.get?_push_of_some _ e, turn_list a _, ⟨_, Heap.get?_push_size _ rfl, rfl, rfl⟩, fr, q⟩
  · obtain ⟨its, rv, p, hz⟩ := I1.tuple hq
    refine wpAny_pyIter_tuple (show s1.heap.IsTuple a its.toArray from p) ?_
    exact ⟨s1.heap.objs.size, [s1.heap.objs.size], _, _, H1, rfl, I1.kept (t' := s1.toks) fun b o e => Heap.get?_push_of_some _ e, turn_tuple a _, ⟨_, Heap.get?_push_size _ rfl, rfl, rfl⟩, fr, q⟩
theorem sqB_mono {K : Fg} {t : Bool} {G H : Hp} {a : Addr} {xs : List V} (s : Same G H) (h : SqB K t G a xs) : SqB K t H a xs := by
  cases t
  · exact sq_mono s h
  · exact st_mono s h
theorem walks_seq {K : Fg} {t : Bool} {G : Hp} {a : Addr} {vs : List V} {xs : List D} (h : SqB K t G a vs) (d : RpAll K G vs xs) : Walks K (ItsQ K t a) xs G := by
  have hl := rps_len d
  cases t
  · refine ⟨fun i H hi s => ⟨vs, vs[i]'(by omega), sqB_mono (t := false) s h, by rw [List.getElem?_eq_getElem]⟩, fun H s => ⟨vs, sqB_mono (t := false) s h, by omega⟩, fun i H v H' hi s ⟨e, y⟩ => ?_⟩
    have hv := y vs (sqB_mono (t := false) s h)
    obtain ⟨x, e1, e2⟩ := rps_getV d hv
    exact ⟨x, e1, e, e2⟩
  · refine ⟨fun i H hi s => ⟨vs, vs[i]'(by omega), sqB_mono (t := true) s h, by rw [List.getElem?_eq_getElem]⟩, fun H s => ⟨vs, sqB_mono (t := true) s h, by omega⟩, fun i H v H' hi s ⟨e, y⟩ => ?_⟩
    have hv := y vs (sqB_mono (t := true) s h)
    obtain ⟨x, e1, e2⟩ := rps_getV d hv
    exact ⟨x, e1, e, e2⟩
/-- data that is a list or a tuple -/
def itemsD (x : D) (k : List D → Prop) : Prop := match x with
  | .list xs => k xs
  | .tuple xs => k xs
  | _ => False
theorem itemsD.mono {x : D} {k k' : List D → Prop} (f : ∀ xs, k xs → k' xs) (h : itemsD x k) : itemsD x k' := by
  unfold itemsD at *
  split at h
  · exact f _ h
  · exact f _ h
  · exact h.elim
theorem itemsD.get {K : Fg} {G : Hp} {v : V} {x : D} {k : List D → Prop} (d : Rp K G v x) (h : itemsD x k) : ∃ t a vs xs, v = .ref a ∧ SqB K t G a vs ∧ RpAll K G vs xs ∧ k xs := by
  unfold itemsD at h
  split at h
  · cases d with
    | lst g t => exact ⟨false, _, _, _, rfl, .inl g, t, h⟩
  · cases d with
    | tup g t => exact ⟨true, _, _, _, rfl, g.sq, t, h⟩
  · exact h.elim
def rFs (r : RV) : RF := fun env Q => r env fun x e => itemsD x fun xs => Q xs e
section
variable {X : Cx} {tg : Expr} {p pos : Pos}
theorem qf_seq {l : Expr} {r : RV} (h : QV X l r) : QF X tg l (rFs r) := by
  refine ⟨fun env Q Q' f q => h.mono _ _ _ (fun x e z => z.mono fun xs z => f _ _ z) q, _, pi_seq h.run, ?_⟩
  intro σ H R env G F Q0 rep q k
  refine liftV_of h.mono rep q fun x e v G1 H1 h1 s1 rep1 d1 => ?_
  obtain ⟨t, a, vs, xs, rfl, g1, g2, g3⟩ := h1.get d1
  exact ⟨t, a, vs, rfl, sqB_mono rep1.gh g1, k _ xs e G1 H1 g3 s1 rep1 (walks_seq g1 g2)⟩
def rngD (lo hi : Int) : List D := (List.range (hi - lo).toNat).map fun i => .int (lo + (i : Nat))
theorem rngD_len (lo hi : Int) : (rngD lo hi).length = (hi - lo).toNat := by unfold rngD; rw [List.length_map, List.length_range]
theorem rngD_get {lo hi : Int} {i : Nat} (h : i < (hi - lo).toNat) : (rngD lo hi)[i]? = some (.int (lo + (i : Nat))) := by
  unfold rngD
  rw [List.getElem?_map, List.getElem?_range h]
  rfl
theorem walks_rng {K : Fg} {G : Hp} {lo hi : Int} : Walks K (Itr lo (hi - lo).toNat) (rngD lo hi) G := by
  refine ⟨fun i H h _ => by rw [rngD_len] at h; exact h, fun H _ => by rw [rngD_len]; exact Nat.le_refl _, fun i H v H' h _ ⟨e1, e2⟩ => ?_⟩
  rw [rngD_len] at h
  exact ⟨_, rngD_get h, e1, by rw [e2]; exact .int _⟩
def rRng1 (r : RV) : RF := fun env Q => r env fun x e => match x with
  | .int n => -(2 ^ 62) ≤ n ∧ n < 2 ^ 62 ∧ Q (rngD 0 n) e
  | _ => False
def rRng2 (ra rb : RV) : RF := fun env Q => ra env fun x e => rb e fun y e => match x, y with
  | .int m, .int n => (-(2 ^ 62) ≤ m ∧ m < 2 ^ 62 ∧ -(2 ^ 62) ≤ n ∧ n < 2 ^ 62) ∧ Q (rngD m n) e
  | _, _ => False
theorem qf_range1 {a : Expr} {r : RV} (hm : X.mg "range" = none) (h : QV X a r) (hg : Gl X "range" := by rfl) (hs : starEach [a] X.env = [(false, eval a X.env)] := by rfl) (hs2 : starEach [a] X.env = (false, eval a X.env) :: starEach [] X.env := by rfl) : QF X tg (.Call (.Name "range" p) [a] [] pos) (rRng1 r) := by
  refine ⟨fun env Q Q' f q => h.mono _ _ _ (fun x e z => ?_) q, _, pi_range1 hg hm (pa_cons h.run pa_nil hs2) hs, ?_⟩
  · split at z
    · exact ⟨z.1, z.2.1, f _ _ z.2.2⟩
    · exact z
  intro σ H R env G F Q0 rep q k
  refine liftV_of h.mono rep q fun x e v G1 H1 h1 s1 rep1 d1 => ?_
  split at h1
  · rename_i n
    cases d1
    refine ⟨n, rfl, h1.1, h1.2.1, ?_⟩
    have := k (Itr 0 (n - 0).toNat) _ e G1 H1 h1.2.2 s1 rep1 walks_rng
    rw [Int.sub_zero] at this
    exact this
  · exact h1.elim
theorem qf_range2 {a b : Expr} {ra rb : RV} (hm : X.mg "range" = none) (ha : QV X a ra) (hb : QV X b rb) (hg : Gl X "range" := by rfl) (hs : starEach [a, b] X.env = [(false, eval a X.env), (false, eval b X.env)] := by rfl) (hs2 : starEach [b] X.env = [(false, eval b X.env)] := by rfl)
    (hs3 : starEach [a, b] X.env = (false, eval a X.env) :: starEach [b] X.env := by rfl) (hs4 : starEach [b] X.env = (false, eval b X.env) :: starEach [] X.env := by rfl) : QF X tg (.Call (.Name "range" p) [a, b] [] pos) (rRng2 ra rb) := by
  refine ⟨fun env Q Q' f q => ha.mono _ _ _ (fun x e z => hb.mono _ _ _ (fun y e z => ?_) z) q, _, pi_range2 hg hm (pa_cons ha.run (pa_cons hb.run pa_nil hs4) hs3) hs hs2, ?_⟩
  · split at z
    · exact ⟨z.1, f _ _ z.2⟩
    · exact z
  intro σ H R env G F Q0 rep q k
  refine liftV_of ha.mono rep q fun x e v G1 H1 h1 s1 rep1 d1 => ?_
  refine liftV_of hb.mono rep1 h1 fun y e u G2 H2 h2 s2 rep2 d2 => ?_
  split at h2
  · cases d1
    cases d2
    exact ⟨_, _, rfl, h2.1, k _ _ e G2 H2 h2.2 (s1.trans s2) rep2 walks_rng⟩
  · exact h2.elim
/-! ### zip, enumerate -/
def zipD (xs ys : List D) : List (List D) := List.zipWith (fun x y => [x, y]) xs ys
def rZip (ra rb : RV) : RFT := fun env Q => ra env fun x e1 => rb e1 fun y e2 => itemsD x fun xs => itemsD y fun ys => Q (zipD xs ys) e2
def enumD (xs : List D) : List (List D) := xs.mapIdx fun i x => [.int (i : Nat), x]
def rEnum (ra : RV) : RFT := fun env Q => ra env fun x e1 => itemsD x fun xs => Q (enumD xs) e1
theorem qf_zip {a b : Expr} {elts : List Expr} {kk : Nat} {tpos : Pos} {ra rb : RV} (hm : X.mg "zip" = none) (ha : QV X a ra) (hb : QV X b rb) (hg : Gl X "zip" := by rfl) (hs : starEach [a, b] X.env = (false, eval a X.env) :: starEach [b] X.env := by rfl) (hpl : (backTo pos (starEach [b] X.env)).any (·.1) = false := by rfl)
    (hs4 : starEach [b] X.env = (false, eval b X.env) :: starEach [] X.env := by rfl) : QFT X (.Tuple elts kk tpos) (.Call (.Name "zip" p) [a, b] [] pos) (rZip ra rb) := by
  refine ⟨fun env Q Q' f q => ha.mono _ _ _ (fun x e z => hb.mono _ _ _ (fun y e z => z.mono fun xs z => z.mono fun ys z => f _ _ z) z) q, _, pi_zipQ hg hm (pa_cons ha.run (pa_cons hb.run pa_nil hs4) hs) hs hpl, ?_⟩
  intro σ H R env G F Q0 rep q k
  refine liftV_of ha.mono rep q fun x e v G1 H1 h1 s1 rep1 d1 => ?_
  refine liftV_of hb.mono rep1 h1 fun y e u G2 H2 h2 s2 rep2 d2 => ?_
  obtain ⟨t1, a, vs, xs, rfl, g1, g2, g3⟩ := h2.get (rp_mono s2 _ d1)
  obtain ⟨t2, b, ws, ys, rfl, g4, g5, g6⟩ := g3.get d2
  refine ⟨t1, t2, a, b, vs, ws, rfl, sqB_mono rep2.gh g1, sqB_mono rep2.gh g4, k _ _ e G2 H2 g6 (s1.trans s2) rep2 ⟨fun i H hi s => ?_, fun H s => ?_, fun i H v H' hi s ⟨T, x, y, ev, hT, eH, f1, f2⟩ => ?_⟩⟩
  · have l1 := rps_len g2
    have l2 := rps_len g5
    unfold zipD at hi
    rw [List.length_zipWith] at hi
    exact ⟨vs, ws, vs[i]'(by omega), ws[i]'(by omega), sqB_mono s g1, sqB_mono s g4, by rw [List.getElem?_eq_getElem], by rw [List.getElem?_eq_getElem]⟩
  · exact ⟨vs, ws, sqB_mono s g1, sqB_mono s g4, by unfold zipD; rw [List.length_zipWith, rps_len g2, rps_len g5]⟩
  · obtain ⟨x', q1, q2⟩ := rps_getV g2 (f1 _ (sqB_mono s g1))
    obtain ⟨y', q3, q4⟩ := rps_getV g5 (f2 _ (sqB_mono s g4))
    refine ⟨[x', y'], T, [x, y], ?_, ev, hT, eH, .cons q2 (.cons q4 .nil)⟩
    unfold zipD
    rw [List.getElem?_zipWith, q1, q3]
theorem qf_enum {a : Expr} {elts : List Expr} {kk : Nat} {tpos : Pos} {ra : RV} (hm : X.mg "enumerate" = none) (ha : QV X a ra) (hg : Gl X "enumerate" := by rfl) (hs : starEach [a] X.env = [(false, eval a X.env)] := by rfl) (hs4 : starEach [a] X.env = (false, eval a X.env) :: starEach [] X.env := by rfl) :
    QFT X (.Tuple elts kk tpos) (.Call (.Name "enumerate" p) [a] [] pos) (rEnum ra) := by
  refine ⟨fun env Q Q' f q => ha.mono _ _ _ (fun x e z => z.mono fun xs z => f _ _ z) q, _, pi_enumQ hg hm (pa_cons ha.run pa_nil hs4) hs, ?_⟩
  intro σ H R env G F Q0 rep q k
  refine liftV_of ha.mono rep q fun x e v G1 H1 h1 s1 rep1 d1 => ?_
  obtain ⟨t1, a, vs, xs, rfl, g1, g2, g3⟩ := h1.get d1
  have l1 := rps_len g2
  refine ⟨t1, a, vs, rfl, sqB_mono rep1.gh g1, k _ _ e G1 H1 g3 s1 rep1 ⟨fun i H hi s => ?_, fun H s => ?_, fun i H v H' hi s ⟨T, x, ev, hT, eH, f1⟩ => ?_⟩⟩
  · unfold enumD at hi
    rw [List.length_mapIdx] at hi
    exact ⟨vs, vs[i]'(by omega), sqB_mono s g1, by rw [List.getElem?_eq_getElem]⟩
  · exact ⟨vs, sqB_mono s g1, by unfold enumD; rw [List.length_mapIdx, l1]⟩
  · obtain ⟨x', q1, q2⟩ := rps_getV g2 (f1 _ (sqB_mono s g1))
    refine ⟨[.int (i : Nat), x'], T, [.int (i : Nat), x], ?_, ev, hT, eH, .cons (.int _) (.cons q2 .nil)⟩
    unfold enumD
    rw [List.getElem?_mapIdx, q1]
    rfl
end

/-! ### for -/
def rFor (ri : RF) (t : RG) (body : RS) : RS := fun E env => ri env fun xs e0 => ∃ I : Nat → Env → Prop, I 0 e0 ∧
  (∀ i x e, xs[i]? = some x → I i e → t x e fun e2 => body { E with nx := I (i + 1), ct := I (i + 1), bk := E.nx } e2) ∧ ∀ e, I xs.length e → E.nx e
def rForT (ri : RFT) (n : Nat) (ts : RGs) (body : RS) : RS := fun E env => ri env fun xss e0 => ∃ I : Nat → Env → Prop, I 0 e0 ∧
  (∀ i xs e, xss[i]? = some xs → I i e → xs.length = n ∧ ts xs e fun e2 => body { E with nx := I (i + 1), ct := I (i + 1), bk := E.nx } e2) ∧ ∀ e, I xss.length e → E.nx e
theorem End.le_loop {A B : End} (l : A.le B) (N : Env → Prop) : End.le { A with nx := N, ct := N, bk := A.nx } { B with nx := N, ct := N, bk := B.nx } := ⟨fun _ h => h, l.2.1, l.1, fun _ h => h⟩
section
variable {X : Cx} {kp : List Nat} {pos : Pos}
theorem qs_for {tg iter : Expr} {body : List Stmt} {ri : RF} {sl : List Nat} {t : RG} {r : RS} (hp : PassesOwn (model X.prog X.w) X.A X.env X.xe) (hc : X.calm = true) (hi : QF X tg iter ri) (hg : QG X tg sl t) (hb : QSs X kp body r) (hk : ∀ j ∈ kp, j ∉ sl := by decide)
    (hs : ∀ x, foldedSetIterable iter X.env x = pure x := by intro _; rfl) : QS X kp (.For tg iter body [] pos) (rFor ri t r) := by
  obtain ⟨wi, hpi, hw⟩ := hi.run
  refine ⟨fun A B env l q => hi.mono _ _ _ (fun xs e ⟨I, a, b, c⟩ => ⟨I, a, fun i x e g h => hg.mono _ _ _ _ (fun e z => hb.mono _ _ _ (End.le_loop l _) z) (b i x e g h), fun e h => l.1 _ (c e h)⟩) q, ps_imp (ps_for hp hc hpi hg.run hb.run hs) ?_⟩
  intro E σ H ⟨env, G, F, rep, q⟩
  refine hw σ H _ env G F _ rep q fun J xs e0 G1 H1 ⟨I, i0, i1, i2⟩ s1 rep1 wk => ?_
  refine ⟨fun i m σ' H' => ∃ e G', Same G1 G' ∧ KeepS kp σ σ' ∧ Rep X.K G' F H' σ' e ∧ i + m = xs.length ∧ I i e, ⟨xs.length, e0, G1, idS, keepS_refl, rep1, by omega, i0⟩, fun i m σ' H' ⟨e, G', sG, ks, rp, em, hI⟩ => ?_⟩
  by_cases hlt : i < xs.length
  · refine .inr ⟨wk.go i H' hlt (sG.trans rp.gh), fun σ2 H2 => ∃ e G2, Same G1 G2 ∧ KeepS kp σ σ2 ∧ Rep X.K G2 F H2 σ2 e ∧ I (i + 1) e, fun σ2 H2 ⟨e, G2, a, b, c, d⟩ => ⟨m - 1, by omega, e, G2, a, b, c, by omega, d⟩, fun v H'' y => ?_⟩
    obtain ⟨x, ex, eH, dx⟩ := wk.yld i H' v H'' hlt (sG.trans rp.gh) y
    subst eH
    refine ⟨e, G', F, x, rp, rp_mono sG x dx, hg.mono _ _ _ _ (fun e2 z σ2 k2 l2 rep2 => ?_) (i1 i x e ex hI)⟩
    have ks2 : KeepS kp σ σ2 := ks.trans fun j m => k2 j (hk j m)
    refine ⟨e2, G', F, rep2, hb.mono { liftEnd X.K kp G F σ E with nx := I (i + 1), ct := I (i + 1), bk := (liftEnd X.K kp G F σ E).nx } _ _ ⟨fun e3 h3 σ3 G3 H3 s3 k3 r3 => ⟨e3, G3, sG.trans s3, ks2.trans k3, r3, h3⟩, fun o e3 h3 v σ3 G3 H3 s3 k3 r3 => h3 v σ3 G3 H3 ((s1.trans sG).trans s3) (ks2.trans k3) r3,
      fun e3 h3 σ3 G3 H3 s3 k3 r3 => h3 σ3 G3 H3 ((s1.trans sG).trans s3) (ks2.trans k3) r3, fun e3 h3 σ3 G3 H3 s3 k3 r3 => ⟨e3, G3, sG.trans s3, ks2.trans k3, r3, h3⟩⟩ z⟩
  · have ei : i = xs.length := by omega
    subst ei
    exact .inl ⟨wk.stop H' (sG.trans rp.gh), i2 e hI σ' G' H' (s1.trans sG) ks rp⟩
theorem qs_forT {elts : List Expr} {kk : Nat} {tpos : Pos} {iter : Expr} {body : List Stmt} {ri : RFT} {sl : List Nat} {ts : RGs} {r : RS} (n : Nat) (hp : PassesOwn (model X.prog X.w) X.A X.env X.xe) (hc : X.calm = true) (hi : QFT X (.Tuple elts kk tpos) iter ri) (hg : QGs X elts sl ts) (hb : QSs X kp body r) (hk : ∀ j ∈ kp, j ∉ sl := by decide)
    (hn : (assignEach elts X.env).length = n := by rfl) (hst : (assignEach elts X.env).findIdx? (·.1) = none := by rfl) (hs : ∀ x, foldedSetIterable iter X.env x = pure x := by intro _; rfl) : QS X kp (.For (.Tuple elts kk tpos) iter body [] pos) (rForT ri n ts r) := by
  obtain ⟨wi, hpi, hw⟩ := hi.run
  refine ⟨fun A B env l q => hi.mono _ _ _ (fun xs e ⟨I, a, b, c⟩ => ⟨I, a, fun i x e g h => ⟨(b i x e g h).1, hg.mono _ _ _ _ (fun e z => hb.mono _ _ _ (End.le_loop l _) z) (b i x e g h).2⟩, fun e h => l.1 _ (c e h)⟩) q, ps_imp (ps_for hp hc hpi (pg_tup hc hg.run hn hst) hb.run hs) ?_⟩
  intro E σ H ⟨env, G, F, rep, q⟩
  refine hw σ H _ env G F _ rep q fun J xss e0 G1 H1 ⟨I, i0, i1, i2⟩ s1 rep1 wk => ?_
  refine ⟨fun i m σ' H' => ∃ e G', Same G1 G' ∧ KeepS kp σ σ' ∧ Rep X.K G' F H' σ' e ∧ i + m = xss.length ∧ I i e, ⟨xss.length, e0, G1, idS, keepS_refl, rep1, by omega, i0⟩, fun i m σ' H' ⟨e, G', sG, ks, rp, em, hI⟩ => ?_⟩
  by_cases hlt : i < xss.length
  · refine .inr ⟨wk.go i H' hlt (sG.trans rp.gh), fun σ2 H2 => ∃ e G2, Same G1 G2 ∧ KeepS kp σ σ2 ∧ Rep X.K G2 F H2 σ2 e ∧ I (i + 1) e, fun σ2 H2 ⟨e, G2, a, b, c, d⟩ => ⟨m - 1, by omega, e, G2, a, b, c, by omega, d⟩, fun v H'' y => ?_⟩
    obtain ⟨xs, T, vs, ex, ev, hT, eH, dx⟩ := wk.yld i H' v H'' hlt (sG.trans rp.gh) y
    subst eH ev
    obtain ⟨hl, z⟩ := i1 i xs e ex hI
    have rT := rp.newG (o := .tup vs) hT
    refine ⟨T, vs, rfl, .inl (.inl upd_same), by rw [rps_len dx]; exact hl, e, _, F, xs, rT.1, rps_mono (sG.trans rT.2) xs dx, hg.mono _ _ _ _ (fun e2 z σ2 k2 l2 rep2 => ?_) z⟩
    have ks2 : KeepS kp σ σ2 := ks.trans fun j m => k2 j (hk j m)
    have sG2 := sG.trans rT.2
    refine ⟨e2, _, F, rep2, hb.mono { liftEnd X.K kp G F σ E with nx := I (i + 1), ct := I (i + 1), bk := (liftEnd X.K kp G F σ E).nx } _ _ ⟨fun e3 h3 σ3 G3 H3 s3 k3 r3 => ⟨e3, G3, sG2.trans s3, ks2.trans k3, r3, h3⟩, fun o e3 h3 v σ3 G3 H3 s3 k3 r3 => h3 v σ3 G3 H3 ((s1.trans sG2).trans s3) (ks2.trans k3) r3,
      fun e3 h3 σ3 G3 H3 s3 k3 r3 => h3 σ3 G3 H3 ((s1.trans sG2).trans s3) (ks2.trans k3) r3, fun e3 h3 σ3 G3 H3 s3 k3 r3 => ⟨e3, G3, sG2.trans s3, ks2.trans k3, r3, h3⟩⟩ z⟩
  · have ei : i = xss.length := by omega
    subst ei
    exact .inl ⟨wk.stop H' (sG.trans rp.gh), i2 e hI σ' G' H' (s1.trans sG) ks rp⟩
/-! ### while -/
def rWhile (c : RT) (body : RS) : RS := fun E env => ∃ W : Nat → Env → Prop, (∃ m, W m env) ∧ ∀ m e, W m e → c e fun b e1 =>
  if b = true then body { E with nx := fun e2 => ∃ m', m' < m ∧ W m' e2, ct := fun e2 => ∃ m', m' < m ∧ W m' e2, bk := E.nx } e1 else E.nx e1
theorem qs_while {c : Expr} {body : List Stmt} {t : RT} {r : RS} (hp : PassesOwn (model X.prog X.w) X.A X.env X.xe) (hc : QT X c t) (hb : QSs X kp body r) : QS X kp (.While c body [] pos) (rWhile t r) := by
  refine ⟨fun A B env l ⟨W, a, b⟩ => ⟨W, a, fun m e h => hc.mono _ _ _ (fun x e z => ite_mono (hb.mono _ _ _ (End.le_loop l _)) (l.1 _) z) (b m e h)⟩, ps_imp (ps_while hp hc.run hb.run) ?_⟩
  intro E σ H ⟨env, G, F, rep, W, ⟨m0, w0⟩, turn⟩
  refine ⟨fun m σ' H' => ∃ e G', Same G G' ∧ KeepS kp σ σ' ∧ Rep X.K G' F H' σ' e ∧ W m e, ⟨m0, env, G, idS, keepS_refl, rep, w0⟩, fun m σ' H' ⟨e, G', sG, ks, rp, hW⟩ => ?_⟩
  refine liftT_of hc.mono rp (turn m e hW) fun b e1 G1 H1 h1 s1 rep1 => ?_
  have s2 := sG.trans s1
  refine ite_mono (fun z => ?_) (fun z => ?_) h1
  · refine ⟨fun σ2 H2 => ∃ e G2 m', m' < m ∧ Same G G2 ∧ KeepS kp σ σ2 ∧ Rep X.K G2 F H2 σ2 e ∧ W m' e, fun σ2 H2 ⟨e, G2, m', lt, a, b, c, d⟩ => ⟨m', lt, e, G2, a, b, c, d⟩, e1, G1, F, rep1, ?_⟩
    exact hb.mono { liftEnd X.K kp G F σ E with nx := fun e2 => ∃ m', m' < m ∧ W m' e2, ct := fun e2 => ∃ m', m' < m ∧ W m' e2, bk := (liftEnd X.K kp G F σ E).nx } _ _ ⟨fun e3 ⟨m', lt, h3⟩ σ3 G3 H3 s3 k3 r3 => ⟨e3, G3, m', lt, s2.trans s3, ks.trans k3, r3, h3⟩, fun o e3 h3 v σ3 G3 H3 s3 k3 r3 => h3 v σ3 G3 H3 (s2.trans s3) (ks.trans k3) r3,
      fun e3 h3 σ3 G3 H3 s3 k3 r3 => h3 σ3 G3 H3 (s2.trans s3) (ks.trans k3) r3, fun e3 ⟨m', lt, h3⟩ σ3 G3 H3 s3 k3 r3 => ⟨e3, G3, m', lt, s2.trans s3, ks.trans k3, r3, h3⟩⟩ z
  · exact z σ' G1 H1 s2 ks rep1
end
end Pf
set_option Elab.async false
set_option linter.all false
set_option maxRecDepth 100000
set_option maxHeartbeats 4000000
/-! Pf: list comprehensions. -/
namespace Pf
open PySem PySem.Spec PyProof.Rows L2

def wipeE (e : Env) : List Nat → Env
  | [] => e
  | v :: vs => (wipeE e vs).set v none
/-- the slots as they stood ahead of the comprehension: data alone -/
def dataAt (e : Env) (j : Nat) : Option O := match e[j]? with
  | some (some (.d x)) => some (.d x)
  | _ => none
def backE (e0 e : Env) : List Nat → Env
  | [] => e
  | v :: vs => (backE e0 e vs).set v (dataAt e0 v)
theorem slots_wipe {K : Fg} {G H : Hp} {σ : L2.St} {e : Env} {fp : List Addr} (s : Slots K G H σ e fp) : ∀ vs : List Nat, ∃ fp', fp'.Sublist fp ∧ Slots K G H (wipe σ vs) (wipeE e vs) fp'
  | [] => ⟨fp, .refl _, s⟩
  | v :: vs => by
    obtain ⟨fp', h1, h2⟩ := slots_wipe s vs
    show ∃ fp', _ ∧ Slots K G H ((wipe σ vs).set v none) ((wipeE e vs).set v none) fp'
    rcases get_or (wipeE e vs) v with ⟨oo, g⟩ | g
    · obtain ⟨fa, f1, fb, x, e1, e2, e3, f⟩ := h2.split g
      subst e1
      exact ⟨_, (List.Sublist.append (List.Sublist.refl _) (List.sublist_append_right _ _)).trans h1, f G H none none [] idS (fun _ _ => rfl) rfl⟩
    · have hl : (wipeE e vs).length ≤ v := by
        by_cases hl : (wipeE e vs).length ≤ v
        · exact hl
        · have a := congrArg (fun l : Env => l[v]?) (g (some (.d .none)))
          have b := congrArg (fun l : Env => l[v]?) (g none)
          simp only [List.getElem?_set_self (Nat.lt_of_not_le hl)] at a b
          rw [← a] at b
          cases b
      rw [g none, List.set_eq_of_length_le (by rw [h2.len]; exact hl)]
      exact ⟨fp', h1, h2⟩
theorem Rep.wipe {K : Fg} {G F H : Hp} {σ : L2.St} {e : Env} (r : Rep K G F H σ e) (vs : List Nat) : Rep K G F H (L2.wipe σ vs) (wipeE e vs) := by
  obtain ⟨fp, s, w⟩ := r
  obtain ⟨fp', h1, h2⟩ := slots_wipe s vs
  exact ⟨fp', h2, w.sub h1⟩
def backS (σ0 σ : L2.St) : List Nat → L2.St
  | [] => σ
  | v :: vs => (match σ0[v]? with | some x => (backS σ0 σ vs).set v x | none => backS σ0 σ vs)
theorem backS_len (σ0 σ : L2.St) : ∀ vs : List Nat, (backS σ0 σ vs).length = σ.length
  | [] => rfl
  | v :: vs => by
    unfold backS
    split
    · rw [List.length_set, backS_len σ0 σ vs]
    · exact backS_len σ0 σ vs
theorem backS_get {σ0 σ : L2.St} (hl : σ.length = σ0.length) : ∀ {vs : List Nat}, (∀ j, j ∉ vs → σ[j]? = σ0[j]?) → backS σ0 σ vs = σ0 := by
  have key : ∀ (vs : List Nat) (j : Nat), (backS σ0 σ vs)[j]? = if j ∈ vs then σ0[j]? else σ[j]? := by
    intro vs j
    induction vs with
    | nil => rw [if_neg (by simp)]; rfl
    | cons v vs ih =>
      unfold backS
      by_cases hj : j = v
      · subst hj
        rw [if_pos List.mem_cons_self]
        split
        · rename_i x e
          rw [List.getElem?_set_self, e]
          rw [backS_len, hl]
          exact (List.getElem?_eq_some_iff.mp e).1
        · rename_i e
          rw [e, List.getElem?_eq_none_iff, backS_len, hl]
          exact List.getElem?_eq_none_iff.mp e
      · have hm : (j ∈ v :: vs) ↔ j ∈ vs := by
          simp [hj]
        split
        · rw [List.getElem?_set_ne (fun z => hj z.symm), ih]
          by_cases h : j ∈ vs
          · rw [if_pos h, if_pos (hm.mpr h)]
          · rw [if_neg h, if_neg (fun z => h (hm.mp z))]
        · rw [ih]
          by_cases h : j ∈ vs
          · rw [if_pos h, if_pos (hm.mpr h)]
          · rw [if_neg h, if_neg (fun z => h (hm.mp z))]
  intro vs h
  refine List.ext_getElem? fun j => ?_
  rw [key]
  by_cases hj : j ∈ vs
  · rw [if_pos hj]
  · rw [if_neg hj, h j hj]
theorem slots_back {K : Fg} {G0 F0 H0 G H : Hp} {σ0 σ : L2.St} {e0 e : Env} {fp : List Addr} (r0 : Rep K G0 F0 H0 σ0 e0) (sG : Same G0 G) (s : Slots K G H σ e fp) : ∀ vs : List Nat, ∃ fp', fp'.Sublist fp ∧ Slots K G H (backS σ0 σ vs) (backE e0 e vs) fp'
  | [] => ⟨fp, .refl _, s⟩
  | v :: vs => by
    obtain ⟨fp', h1, h2⟩ := slots_back r0 sG s vs
    rcases get_or (backE e0 e vs) v with ⟨oo, g⟩ | g
    · obtain ⟨fa, f1, fb, x, e1, e2, e3, f⟩ := h2.split g
      subst e1
      have sub : (fa ++ ([] ++ fb)).Sublist fp := (List.Sublist.append (List.Sublist.refl _) (List.sublist_append_right _ _)).trans h1
      unfold backS backE
      cases q : σ0[v]? with
      | none =>
        have hd : dataAt e0 v = none := by
          unfold dataAt
          split
          · rename_i y ey
            obtain ⟨u, eu, _⟩ := r0.getD ey
            rw [q] at eu
            cases eu
          · rfl
        dsimp only
        rw [hd]
        have := f G H x none [] idS (fun _ _ => rfl) rfl
        rw [set_self e2] at this
        exact ⟨_, sub, this⟩
      | some y =>
        dsimp only
        refine ⟨_, sub, f G H y (dataAt e0 v) [] idS (fun _ _ => rfl) ?_⟩
        unfold dataAt
        split
        · rename_i z ez
          obtain ⟨u, eu, du⟩ := r0.getD ez
          rw [q] at eu
          cases eu
          exact ⟨u, rfl, rp_mono sG z du, rfl⟩
        · rfl
    · have hl : (backE e0 e vs).length ≤ v := by
        by_cases hl : (backE e0 e vs).length ≤ v
        · exact hl
        · have a := congrArg (fun l : Env => l[v]?) (g (some (.d .none)))
          have b := congrArg (fun l : Env => l[v]?) (g none)
          simp only [List.getElem?_set_self (Nat.lt_of_not_le hl)] at a b
          rw [← a] at b
          cases b
      unfold backS backE
      rw [g]
      refine ⟨fp', h1, ?_⟩
      split
      · rw [List.set_eq_of_length_le (by rw [h2.len]; exact hl)]
        exact h2
      · exact h2
theorem Rep.back {K : Fg} {G0 F0 H0 G F H : Hp} {σ0 σ : L2.St} {e0 e : Env} {vs : List Nat} (r : Rep K G F H σ e) (r0 : Rep K G0 F0 H0 σ0 e0) (sG : Same G0 G) (hl : σ.length = σ0.length) (ho : ∀ j, j ∉ vs → σ[j]? = σ0[j]?) : Rep K G F H σ0 (backE e0 e vs) := by
  obtain ⟨fp, s, w⟩ := r
  obtain ⟨fp', h1, h2⟩ := slots_back r0 sG s vs
  rw [backS_get hl ho] at h2
  exact ⟨fp', h2, w.sub h1⟩
/-- what the frame holds at D may change -/
theorem Rep.frame {K : Fg} {G F H : Hp} {σ : L2.St} {e : Env} {D : Addr} {o o' : HO} (r : Rep K G (upd F D o) H σ e) : Rep K G (upd F D o') (upd H D o') σ e := by
  obtain ⟨fp, s, w⟩ := r
  have hD : ∀ a ∈ fp, a ≠ D := fun a m z => by
    have := w.pf a m
    rw [z, upd_same] at this
    cases this
  have gD : ∀ a, G a ≠ none → a ≠ D := fun a h z => by
    have := w.gf a h
    rw [z, upd_same] at this
    cases this
  refine ⟨fp, s.mono idS fun a m => upd_ne (hD a m), fun a ob h => ?_, fun a ob h => ?_, fun a h => ?_, w.nd, w.pg, fun a m => ?_⟩
  · rw [upd_ne (gD a (by rw [h]; exact fun z => nomatch z))]
    exact w.gh a ob h
  · by_cases z : a = D
    · subst z
      rw [upd_same] at h ⊢
      exact h
    · rw [upd_ne z] at h ⊢
      exact w.fh a ob (by rw [upd_ne z]; exact h)
  · rw [upd_ne (gD a h)]
    have := w.gf a h
    rw [upd_ne (gD a h)] at this
    exact this
  · have := w.pf a m
    rw [upd_ne (hD a m)] at this ⊢
    exact this
theorem Rep.hold {K : Fg} {G F H : Hp} {σ : L2.St} {e : Env} {D : Addr} {o : HO} (r : Rep K G F H σ e) (h : H D = none) : Rep K G (upd F D o) (upd H D o) σ e := by
  obtain ⟨fp, s, w⟩ := r
  have hD : ∀ a ∈ fp, a ≠ D := fun a m z => s.dom a m (by rw [z]; exact h)
  have gD : ∀ a, G a ≠ none → a ≠ D := fun a g z => by
    rw [z, same_none w.gh h] at g
    exact g rfl
  refine ⟨fp, s.mono idS fun a m => upd_ne (hD a m), fun a ob g => ?_, fun a ob g => ?_, fun a g => ?_, w.nd, w.pg, fun a m => ?_⟩
  · rw [upd_ne (gD a (by rw [g]; exact fun z => nomatch z))]
    exact w.gh a ob g
  · by_cases z : a = D
    · subst z
      rw [upd_same] at g ⊢
      exact g
    · rw [upd_ne z] at g ⊢
      exact w.fh a ob g
  · rw [upd_ne (gD a g)]
    exact w.gf a g
  · rw [upd_ne (hD a m)]
    exact w.pf a m
theorem Rep.own {K : Fg} {G F H : Hp} {σ : L2.St} {e : Env} {D : Addr} {vs : List V} (r : Rep K G (upd F D (.lst vs)) H σ e) (hF : F D = none) {ys : List PyData} (d : RpAll K G vs ys) : RepV K G F H σ e (.ref D) (.own ys) := by
  obtain ⟨fp, s, w⟩ := r
  have hD : ∀ a ∈ fp, a ≠ D := fun a m z => by
    have := w.pf a m
    rw [z, upd_same] at this
    cases this
  have gD : ∀ a, G a ≠ none → a ≠ D := fun a h z => by
    have := w.gf a h
    rw [z, upd_same] at this
    cases this
  refine ⟨fp, [D], s, ⟨D, vs, rfl, rfl, w.fh D _ upd_same, d⟩, w.gh, fun a o h => w.fh a o ?_, fun a h => ?_, ?_, fun a m => ?_, fun a m => ?_⟩
  · rw [upd_ne (fun z => by rw [z, hF] at h; cases h)]
    exact h
  · have := w.gf a h
    rw [upd_ne (gD a h)] at this
    exact this
  · rw [List.singleton_append, List.nodup_cons]
    exact ⟨fun m => hD D m rfl, w.nd⟩
  · rcases List.mem_append.mp m with m | m
    · rw [List.mem_singleton.mp m]
      exact none_of fun o h => gD D (by rw [h]; exact fun z => nomatch z) rfl
    · exact w.pg a m
  · rcases List.mem_append.mp m with m | m
    · rw [List.mem_singleton.mp m]
      exact hF
    · have := w.pf a m
      rw [upd_ne (hD a m)] at this
      exact this
theorem wipe_out {σ σ' : L2.St} (hl : σ'.length = σ.length) : ∀ {vs : List Nat}, (∀ j, j ∉ vs → σ'[j]? = σ[j]?) → L2.wipe σ' vs = L2.wipe σ vs := by
  have key : ∀ (τ : L2.St) (vs : List Nat) (j : Nat), (L2.wipe τ vs)[j]? = if j ∈ vs then (τ[j]?).map fun _ => none else τ[j]? := by
    intro τ vs j
    induction vs with
    | nil => rw [if_neg (by simp)]; rfl
    | cons v vs ih =>
      unfold L2.wipe
      by_cases hj : v = j
      · subst hj
        rw [if_pos List.mem_cons_self]
        by_cases h : v < τ.length
        · rw [List.getElem?_set_self (by rw [L2.wipe_length]; exact h), List.getElem?_eq_getElem h]
          rfl
        · rw [List.getElem?_eq_none_iff.mpr (by rw [List.length_set, L2.wipe_length]; omega), List.getElem?_eq_none_iff.mpr (by omega)]
          rfl
      · rw [List.getElem?_set_ne hj, ih]
        by_cases h : j ∈ vs
        · rw [if_pos h, if_pos (List.mem_cons_of_mem _ h)]
        · rw [if_neg h, if_neg (by simp only [List.mem_cons, not_or]; exact ⟨fun z => hj z.symm, h⟩)]
  intro vs h
  refine List.ext_getElem? fun j => ?_
  rw [key, key]
  by_cases hj : j ∈ vs
  · rw [if_pos hj, if_pos hj]
    by_cases h1 : j < σ.length
    · rw [List.getElem?_eq_getElem h1, List.getElem?_eq_getElem (by omega)]
      rfl
    · rw [List.getElem?_eq_none_iff.mpr (by omega), List.getElem?_eq_none_iff.mpr (by omega)]
  · rw [if_neg hj, if_neg hj, h j hj]
theorem wipe_get {σ : L2.St} {vs : List Nat} {j : Nat} (h : j ∉ vs) : (L2.wipe σ vs)[j]? = σ[j]? := L2.wipe_out h

/-! ### [elt for target in iter if test] -/
def rLc (ri : RF) (t : RG) (c : RT) (re : RV) (vs : List Nat) : RE := fun env Q => ri env fun xs e0 => ∃ I : Nat → List D → Env → Prop, I 0 [] e0 ∧
  (∀ i x acc e, xs[i]? = some x → I i acc e → t x (wipeE e vs) fun e1 => c e1 fun b e2 => if b = true then re e2 fun y e3 => acc.length < sizeLine ∧ I (i + 1) (acc ++ [y]) (backE e e3 vs) else I (i + 1) acc (backE e e2 vs)) ∧
  ∀ acc e, I xs.length acc e → Q (.own acc) e
def rLcT (ri : RFT) (n : Nat) (ts : RGs) (c : RT) (re : RV) (vs : List Nat) : RE := fun env Q => ri env fun xss e0 => ∃ I : Nat → List D → Env → Prop, I 0 [] e0 ∧
  (∀ i xs acc e, xss[i]? = some xs → I i acc e → xs.length = n ∧ ts xs (wipeE e vs) fun e1 => c e1 fun b e2 => if b = true then re e2 fun y e3 => acc.length < sizeLine ∧ I (i + 1) (acc ++ [y]) (backE e e3 vs) else I (i + 1) acc (backE e e2 vs)) ∧
  ∀ acc e, I xss.length acc e → Q (.own acc) e
/-- tests of a comprehension -/
structure QTs (X : Cx) (ifs : List Expr) (r : RT) : Prop where
  mono : MonoK r
  run : PTs X ifs (liftT X.K r)
def rYes : RT := fun env Q => Q true env
theorem pts_imp {X : Cx} {e : List Expr} {t t' : TT} (h : PTs X e t) (f : ∀ σ H Q, t' σ H Q → t σ H Q) : PTs X e t' := ⟨fun pins s σ H Q I q => h.run pins s σ H Q I (f σ H Q q)⟩
theorem qts_nil {X : Cx} : QTs X [] rYes := ⟨fun env Q Q' f h => f _ _ h, pts_imp pts_nil fun σ H Q ⟨env, G, F, rep, h⟩ => h G H idS rep⟩
theorem qts_one {X : Cx} {c : Expr} {r : RT} (h : QT X c r) : QTs X [c] r := ⟨h.mono, pts_one h.run⟩

section
variable {X : Cx} {elt tg iter : Expr} {ifs : List Expr} {scope : Scope} {own : List (Str × Nat)} {pos : Pos} {sl : List Nat} {c : RT} {re : RV}
/-- one turn behind the target -/
theorem lc_turn {K : Fg} {G0 F H : Hp} {σ σ2 : L2.St} {e e1 : Env} {vs : List Nat} {D : Addr} {us : List V} {acc : List PyData} {J1 J2 : List PyData → Env → Prop} {N : Hp → Prop} (mc : MonoK c) (me : MonoK re) (r0 : Rep K G0 (upd F D (.lst us)) H σ e) (hus : RpAll K G0 us acc)
    {G1 H1 : Hp} (r1 : Rep K G1 (upd F D (.lst us)) H1 σ2 e1) (sG : Same G0 G1) (hl : σ2.length = σ.length) (ho : ∀ j, j ∉ vs → σ2[j]? = σ[j]?)
    (z : c e1 fun b e2 => if b = true then re e2 fun y e3 => acc.length < sizeLine ∧ J1 (acc ++ [y]) (backE e e3 vs) else J2 acc (backE e e2 vs))
    (n1 : ∀ G' H' us' acc' e', Same G1 G' → Rep K G' (upd F D (.lst us')) H' σ e' → RpAll K G' us' acc' → J1 acc' e' → N H') (n2 : ∀ G' H' us' acc' e', Same G1 G' → Rep K G' (upd F D (.lst us')) H' σ e' → RpAll K G' us' acc' → J2 acc' e' → N H') :
    liftT K c σ2 H1 fun b H3 => if b = true then liftV K re σ2 H3 fun y H4 => ∃ acc, H4 D = some (.lst acc) ∧ acc.length < sizeLine ∧ N (upd H4 D (.lst (acc ++ [y]))) else N H3 := by
  refine liftT_of mc r1 z fun b e2 G2 H2 z2 s2 r2 => ite_mono (fun z3 => ?_) (fun z3 => ?_) z2
  · refine liftV_of me r2 z3 fun y e3 v G3 H3 z4 s3 r3 d3 => ?_
    obtain ⟨fp, sl3, w3⟩ := r3
    refine ⟨us, w3.fh D _ upd_same, by rw [rps_len hus]; exact z4.1, ?_⟩
    have rb := (show Rep K G3 (upd F D (.lst us)) H3 σ2 e3 from ⟨fp, sl3, w3⟩).back (vs := vs) r0 ((sG.trans s2).trans s3) hl ho
    exact n1 G3 _ (us ++ [v]) _ _ (s2.trans s3) rb.frame (rps_append (rps_mono ((sG.trans s2).trans s3) acc hus) (.cons d3 .nil)) z4.2
  · exact n2 G2 H2 us acc _ s2 (r2.back r0 (sG.trans s2) hl ho) (rps_mono (sG.trans s2) acc hus) z3
theorem pe_qlc {ri : RF} {t : RG} (hc : X.calm = true) (hN : X.N.Nodup) (hi : QF X tg iter ri) (ok : BlkOk X.N X.env.scope scope own) (hsl : ∀ j ∈ sl, j ∈ own.map (·.2))
    (hg : ∀ (s : Shared) (H : Hp) (C : Addr) (cl : List (Str × Addr)) (fp : List Addr), QG (X.blk s H scope (compEnvC scope cl C X.env) fp) tg sl t) (ht : ∀ (s : Shared) (H : Hp) (C : Addr) (cl : List (Str × Addr)) (fp : List Addr), QTs (X.blk s H scope (compEnvC scope cl C X.env) fp) ifs c)
    (he : ∀ (s : Shared) (H : Hp) (C : Addr) (cl : List (Str × Addr)) (fp : List Addr), QV (X.blk s H scope (compEnvC scope cl C X.env) fp) elt re) (hmt : MonoG t) (hmc : MonoK c) (hme : MonoK re) :
    MonoK (rLc ri t c re (own.map (·.2))) ∧ ∃ wi, PI X tg iter wi ∧ ∀ σ H Q, liftO X.K (rLc ri t c re (own.map (·.2))) σ H Q → tLc wi (liftG X.K sl t) (liftT X.K c) (liftV X.K re) (own.map (·.2)) σ H Q := by
  obtain ⟨wi, hpi, hw⟩ := hi.run
  refine ⟨fun env Q Q' f q => hi.mono _ _ _ (fun xs e ⟨I, a, b, d⟩ => ⟨I, a, b, fun acc e h => f _ _ (d acc e h)⟩) q, wi, hpi, ?_⟩
  intro σ H Q ⟨env, G, F, rep, q⟩
  refine hw σ H _ env G F _ rep q fun J xs e0 G1 H1 ⟨I, i0, i1, i2⟩ s1 rep1 wk => ?_
  intro D hD
  have hF : F D = none := let ⟨_, _, w⟩ := rep1; same_none w.fh hD
  refine ⟨fun i m H' => ∃ e G' us acc, Same G1 G' ∧ Rep X.K G' (upd F D (.lst us)) H' σ e ∧ RpAll X.K G' us acc ∧ i + m = xs.length ∧ I i acc e, ⟨xs.length, e0, G1, [], [], idS, rep1.hold hD, .nil, by omega, i0⟩, fun i m H' ⟨e, G', us, acc, sG, rp, hus, em, hI⟩ => ?_⟩
  by_cases hlt : i < xs.length
  · refine .inr ⟨wk.go i H' hlt (sG.trans rp.gh), fun H2 => ∃ e G2 us acc, Same G1 G2 ∧ Rep X.K G2 (upd F D (.lst us)) H2 σ e ∧ RpAll X.K G2 us acc ∧ I (i + 1) acc e, fun H2 ⟨e, G2, us, acc, a, b, c, d⟩ => ⟨m - 1, by omega, e, G2, us, acc, a, b, c, by omega, d⟩, fun v H'' y => ?_⟩
    obtain ⟨x, ex, eH, dx⟩ := wk.yld i H' v H'' hlt (sG.trans rp.gh) y
    subst eH
    refine ⟨_, G', _, x, rp.wipe (own.map (·.2)), rp_mono sG x dx, hmt _ _ _ _ (fun e1 z σ2 k2 l2 rep2 => ?_) (i1 i x acc e ex hI)⟩
    have hl : σ2.length = σ.length := by rw [l2, L2.wipe_length]
    have ho : ∀ j, j ∉ own.map (·.2) → σ2[j]? = σ[j]? := fun j m => by rw [k2 j (fun m2 => m (hsl j m2)), wipe_get m]
    refine ⟨wipe_out hl ho, ?_⟩
    exact lc_turn hmc hme rp hus rep2 idS hl ho z (fun G3 H3 us' acc' e' s3 r3 d3 j3 => ⟨e', G3, us', acc', sG.trans s3, r3, d3, j3⟩) (fun G3 H3 us' acc' e' s3 r3 d3 j3 => ⟨e', G3, us', acc', sG.trans s3, r3, d3, j3⟩)
  · have ei : i = xs.length := by omega
    subst ei
    exact .inl ⟨wk.stop H' (sG.trans rp.gh), i2 acc e hI _ G' H' (s1.trans sG) (rp.own hF hus)⟩
theorem pe_qlcT {elts : List Expr} {kk : Nat} {tpos : Pos} {ri : RFT} {ts : RGs} (n : Nat) (hc : X.calm = true) (hN : X.N.Nodup) (hi : QFT X (.Tuple elts kk tpos) iter ri) (ok : BlkOk X.N X.env.scope scope own) (hsl : ∀ j ∈ sl, j ∈ own.map (·.2))
    (hmt : MonoG ts) (hmc : MonoK c) (hme : MonoK re) :
    MonoK (rLcT ri n ts c re (own.map (·.2))) ∧ ∃ wi, PI X (.Tuple elts kk tpos) iter wi ∧ ∀ σ H Q, liftO X.K (rLcT ri n ts c re (own.map (·.2))) σ H Q → tLc wi (gTup X.K n (liftGs X.K sl ts)) (liftT X.K c) (liftV X.K re) (own.map (·.2)) σ H Q := by
  obtain ⟨wi, hpi, hw⟩ := hi.run
  refine ⟨fun env Q Q' f q => hi.mono _ _ _ (fun xs e ⟨I, a, b, d⟩ => ⟨I, a, b, fun acc e h => f _ _ (d acc e h)⟩) q, wi, hpi, ?_⟩
  intro σ H Q ⟨env, G, F, rep, q⟩
  refine hw σ H _ env G F _ rep q fun J xss e0 G1 H1 ⟨I, i0, i1, i2⟩ s1 rep1 wk => ?_
  intro D hD
  have hF : F D = none := let ⟨_, _, w⟩ := rep1; same_none w.fh hD
  refine ⟨fun i m H' => ∃ e G' us acc, Same G1 G' ∧ Rep X.K G' (upd F D (.lst us)) H' σ e ∧ RpAll X.K G' us acc ∧ i + m = xss.length ∧ I i acc e, ⟨xss.length, e0, G1, [], [], idS, rep1.hold hD, .nil, by omega, i0⟩, fun i m H' ⟨e, G', us, acc, sG, rp, hus, em, hI⟩ => ?_⟩
  by_cases hlt : i < xss.length
  · refine .inr ⟨wk.go i H' hlt (sG.trans rp.gh), fun H2 => ∃ e G2 us acc, Same G1 G2 ∧ Rep X.K G2 (upd F D (.lst us)) H2 σ e ∧ RpAll X.K G2 us acc ∧ I (i + 1) acc e, fun H2 ⟨e, G2, us, acc, a, b, c, d⟩ => ⟨m - 1, by omega, e, G2, us, acc, a, b, c, by omega, d⟩, fun v H'' y => ?_⟩
    obtain ⟨xs, T, ws, ex, ev, hT, eH, dx⟩ := wk.yld i H' v H'' hlt (sG.trans rp.gh) y
    subst eH ev
    obtain ⟨hl, z⟩ := i1 i xs acc e ex hI
    have rT := rp.newG (o := .tup ws) hT
    refine ⟨T, ws, rfl, .inl (.inl upd_same), by rw [rps_len dx]; exact hl, _, _, _, xs, rT.1.wipe (own.map (·.2)), rps_mono (sG.trans rT.2) xs dx, hmt _ _ _ _ (fun e1 z σ2 k2 l2 rep2 => ?_) z⟩
    have hl : σ2.length = σ.length := by rw [l2, L2.wipe_length]
    have ho : ∀ j, j ∉ own.map (·.2) → σ2[j]? = σ[j]? := fun j m => by rw [k2 j (fun m2 => m (hsl j m2)), wipe_get m]
    refine ⟨wipe_out hl ho, ?_⟩
    have sG2 := sG.trans rT.2
    exact lc_turn hmc hme rT.1 (rps_mono rT.2 acc hus) rep2 idS hl ho z (fun G3 H3 us' acc' e' s3 r3 d3 j3 => ⟨e', G3, us', acc', sG2.trans s3, r3, d3, j3⟩) (fun G3 H3 us' acc' e' s3 r3 d3 j3 => ⟨e', G3, us', acc', sG2.trans s3, r3, d3, j3⟩)
  · have ei : i = xss.length := by omega
    subst ei
    exact .inl ⟨wk.stop H' (sG.trans rp.gh), i2 acc e hI _ G' H' (s1.trans sG) (rp.own hF hus)⟩
/-- as a value -/
theorem qe_lc {ri : RF} {t : RG} (hc : X.calm = true) (hN : X.N.Nodup) (hi : QF X tg iter ri) (ok : BlkOk X.N X.env.scope scope own)
    (hg : ∀ (s : Shared) (H : Hp) (C : Addr) (cl : List (Str × Addr)) (fp : List Addr), QG (X.blk s H scope (compEnvC scope cl C X.env) fp) tg sl t) (ht : ∀ (s : Shared) (H : Hp) (C : Addr) (cl : List (Str × Addr)) (fp : List Addr), QTs (X.blk s H scope (compEnvC scope cl C X.env) fp) ifs c)
    (he : ∀ (s : Shared) (H : Hp) (C : Addr) (cl : List (Str × Addr)) (fp : List Addr), QV (X.blk s H scope (compEnvC scope cl C X.env) fp) elt re) (hsl : ∀ j ∈ sl, j ∈ own.map (·.2) := by decide) (hs : ∀ x, foldedSetIterable iter X.env x = pure x := by intro _; rfl) :
    QE X (.ListComp elt [⟨tg, iter, ifs, 0⟩] scope pos) (rLc ri t c re (own.map (·.2))) := by
  let s0 : Shared := X.s_0
  obtain ⟨m, wi, hpi, f⟩ := pe_qlc hc hN hi ok hsl hg ht he (hg s0 X.H_0 0 [] []).mono (ht s0 X.H_0 0 [] []).mono (he s0 X.H_0 0 [] []).mono
  exact ⟨m, pe_imp (pe_lc hc hN hpi ok (g := liftG X.K sl t) (fun s H C cl fp => (hg s H C cl fp).run) (tt := liftT X.K c) (fun s H C cl fp => (ht s H C cl fp).run) (te := liftV X.K re) (fun s H C cl fp => (he s H C cl fp).run) hs) f⟩
theorem qe_lcT {elts : List Expr} {kk : Nat} {tpos : Pos} {ri : RFT} {ts : RGs} (n : Nat) (hc : X.calm = true) (hN : X.N.Nodup) (hi : QFT X (.Tuple elts kk tpos) iter ri) (ok : BlkOk X.N X.env.scope scope own)
    (hg : ∀ (s : Shared) (H : Hp) (C : Addr) (cl : List (Str × Addr)) (fp : List Addr), QGs (X.blk s H scope (compEnvC scope cl C X.env) fp) elts sl ts) (ht : ∀ (s : Shared) (H : Hp) (C : Addr) (cl : List (Str × Addr)) (fp : List Addr), QTs (X.blk s H scope (compEnvC scope cl C X.env) fp) ifs c)
    (he : ∀ (s : Shared) (H : Hp) (C : Addr) (cl : List (Str × Addr)) (fp : List Addr), QV (X.blk s H scope (compEnvC scope cl C X.env) fp) elt re) (hsl : ∀ j ∈ sl, j ∈ own.map (·.2) := by decide)
    (hn : ∀ (s : Shared) (H : Hp) (C : Addr) (cl : List (Str × Addr)) (fp : List Addr), (assignEach elts (X.blk s H scope (compEnvC scope cl C X.env) fp).env).length = n := by intro _ _ _ _ _; rfl) (hst : ∀ (s : Shared) (H : Hp) (C : Addr) (cl : List (Str × Addr)) (fp : List Addr), (assignEach elts (X.blk s H scope (compEnvC scope cl C X.env) fp).env).findIdx? (·.1) = none := by intro _ _ _ _ _; rfl)
    (hs : ∀ x, foldedSetIterable iter X.env x = pure x := by intro _; rfl) :
    QE X (.ListComp elt [⟨.Tuple elts kk tpos, iter, ifs, 0⟩] scope pos) (rLcT ri n ts c re (own.map (·.2))) := by
  let s0 : Shared := X.s_0
  obtain ⟨m, wi, hpi, f⟩ := pe_qlcT n hc hN hi ok hsl (hg s0 X.H_0 0 [] []).mono (ht s0 X.H_0 0 [] []).mono (he s0 X.H_0 0 [] []).mono
  exact ⟨m, pe_imp (pe_lc hc hN hpi ok (g := gTup X.K n (liftGs X.K sl ts)) (fun s H C cl fp => pg_tup (X := X.blk s H scope (compEnvC scope cl C X.env) fp) hc (hg s H C cl fp).run (hn s H C cl fp) (hst s H C cl fp)) (tt := liftT X.K c) (fun s H C cl fp => (ht s H C cl fp).run) (te := liftV X.K re) (fun s H C cl fp => (he s H C cl fp).run) hs) f⟩
/-- y = [..] -/
theorem qs_setLc {kp : List Nat} (i : Nat) {y : Str} {py spos : Pos} {ri : RF} {t : RG} (hc : X.calm = true) (hN : X.N.Nodup) (hi : QF X tg iter ri) (ok : BlkOk X.N X.env.scope scope own)
    (hg : ∀ (s : Shared) (H : Hp) (C : Addr) (cl : List (Str × Addr)) (fp : List Addr), QG (X.blk s H scope (compEnvC scope cl C X.env) fp) tg sl t) (ht : ∀ (s : Shared) (H : Hp) (C : Addr) (cl : List (Str × Addr)) (fp : List Addr), QTs (X.blk s H scope (compEnvC scope cl C X.env) fp) ifs c)
    (he : ∀ (s : Shared) (H : Hp) (C : Addr) (cl : List (Str × Addr)) (fp : List Addr), QV (X.blk s H scope (compEnvC scope cl C X.env) fp) elt re) (hk : i ∉ kp := by decide) (hsl : ∀ j ∈ sl, j ∈ own.map (·.2) := by decide) (hy : X.N[i]? = some y := by rfl) (hyl : X.env.scope.names.lookup y = some .local := by rfl)
    (hsw : swapsWith (.ListComp elt [⟨tg, iter, ifs, 0⟩] scope pos) (some (.Name y py)) spos.line X.env = pure true := by exact sw_true rfl rfl rfl (by decide +kernel)) (hs : ∀ x, foldedSetIterable iter X.env x = pure x := by intro _; rfl) :
    QS X kp (.Assign [.Name y py] (.ListComp elt [⟨tg, iter, ifs, 0⟩] scope pos) spos) (rSet i (rLc ri t c re (own.map (·.2)))) := by
  let s0 : Shared := X.s_0
  obtain ⟨m, wi, hpi, f⟩ := pe_qlc hc hN hi ok hsl hg ht he (hg s0 X.H_0 0 [] []).mono (ht s0 X.H_0 0 [] []).mono (he s0 X.H_0 0 [] []).mono
  refine ⟨fun A B env l q => m _ _ _ (fun o e z => l.1 _ z) q, ps_imp (ps_setLc hc hN hy hyl hsw hpi ok (g := liftG X.K sl t) (fun s H C cl fp => (hg s H C cl fp).run) (tt := liftT X.K c) (fun s H C cl fp => (ht s H C cl fp).run) (te := liftV X.K re) (fun s H C cl fp => (he s H C cl fp).run) hs) ?_⟩
  intro E σ H ⟨env, G, F, rep, q⟩
  exact f σ H _ (liftO_of m rep q fun o e v G' H' z s r => z _ G' H' s (keepS_set hk) (r.put i))
theorem qs_setLcT {kp : List Nat} (i : Nat) {y : Str} {py spos : Pos} {elts : List Expr} {kk : Nat} {tpos : Pos} {ri : RFT} {ts : RGs} (n : Nat) (hc : X.calm = true) (hN : X.N.Nodup) (hi : QFT X (.Tuple elts kk tpos) iter ri) (ok : BlkOk X.N X.env.scope scope own)
    (hg : ∀ (s : Shared) (H : Hp) (C : Addr) (cl : List (Str × Addr)) (fp : List Addr), QGs (X.blk s H scope (compEnvC scope cl C X.env) fp) elts sl ts) (ht : ∀ (s : Shared) (H : Hp) (C : Addr) (cl : List (Str × Addr)) (fp : List Addr), QTs (X.blk s H scope (compEnvC scope cl C X.env) fp) ifs c)
    (he : ∀ (s : Shared) (H : Hp) (C : Addr) (cl : List (Str × Addr)) (fp : List Addr), QV (X.blk s H scope (compEnvC scope cl C X.env) fp) elt re) (hk : i ∉ kp := by decide) (hsl : ∀ j ∈ sl, j ∈ own.map (·.2) := by decide) (hy : X.N[i]? = some y := by rfl) (hyl : X.env.scope.names.lookup y = some .local := by rfl)
    (hn : ∀ (s : Shared) (H : Hp) (C : Addr) (cl : List (Str × Addr)) (fp : List Addr), (assignEach elts (X.blk s H scope (compEnvC scope cl C X.env) fp).env).length = n := by intro _ _ _ _ _; rfl) (hst : ∀ (s : Shared) (H : Hp) (C : Addr) (cl : List (Str × Addr)) (fp : List Addr), (assignEach elts (X.blk s H scope (compEnvC scope cl C X.env) fp).env).findIdx? (·.1) = none := by intro _ _ _ _ _; rfl)
    (hsw : swapsWith (.ListComp elt [⟨.Tuple elts kk tpos, iter, ifs, 0⟩] scope pos) (some (.Name y py)) spos.line X.env = pure true := by exact sw_true rfl rfl rfl (by decide +kernel)) (hs : ∀ x, foldedSetIterable iter X.env x = pure x := by intro _; rfl) :
    QS X kp (.Assign [.Name y py] (.ListComp elt [⟨.Tuple elts kk tpos, iter, ifs, 0⟩] scope pos) spos) (rSet i (rLcT ri n ts c re (own.map (·.2)))) := by
  let s0 : Shared := X.s_0
  obtain ⟨m, wi, hpi, f⟩ := pe_qlcT n hc hN hi ok hsl (hg s0 X.H_0 0 [] []).mono (ht s0 X.H_0 0 [] []).mono (he s0 X.H_0 0 [] []).mono
  refine ⟨fun A B env l q => m _ _ _ (fun o e z => l.1 _ z) q, ps_imp (ps_setLc hc hN hy hyl hsw hpi ok (g := gTup X.K n (liftGs X.K sl ts)) (fun s H C cl fp => pg_tup (X := X.blk s H scope (compEnvC scope cl C X.env) fp) hc (hg s H C cl fp).run (hn s H C cl fp) (hst s H C cl fp)) (tt := liftT X.K c) (fun s H C cl fp => (ht s H C cl fp).run) (te := liftV X.K re) (fun s H C cl fp => (he s H C cl fp).run) hs) ?_⟩
  intro E σ H ⟨env, G, F, rep, q⟩
  exact f σ H _ (liftO_of m rep q fun o e v G' H' z s r => z _ G' H' s (keepS_set hk) (r.put i))
end
end Pf
set_option Elab.async false
set_option linter.all false
set_option maxRecDepth 100000
set_option maxHeartbeats 4000000
/-! Pf: what the defs of a text share: short names of readings, the module's names. -/
namespace Pf
open PySem PySem.Spec PyProof.Rows L2
abbrev bLt : B2 := dOrd fun i j => decide (i < j)
abbrev bLe : B2 := dOrd fun i j => decide (i ≤ j)
abbrev bGt : B2 := dOrd fun i j => decide (j < i)
abbrev bGe : B2 := dOrd fun i j => decide (j ≤ i)
abbrev bSub : F2 := dI0 fun i j => i - j
abbrev bFdiv : F2 := dI CDivA Int.fdiv
abbrev bMod : F2 := dI (fun _ j => j ≠ 0) Int.fmod
abbrev bPow : F2 := dI CPowA fun i j => i ^ j.toNat
abbrev bShl : F2 := dI CShl fun i j => i * 2 ^ j.toNat
abbrev bShr : F2 := dI (fun _ j => 0 ≤ j) fun i j => i / 2 ^ j.toNat
abbrev bBand : F2 := dI0 Builtin.bitAnd
abbrev fAbs : FN := fI1 (fun _ => True) fun i => if i < 0 then -i else i
abbrev fMaxL : FN := fExt fun y m => y ≤ m
abbrev fAny : FN := fBools fun bs => bs.any id
abbrev fAll : FN := fBools fun bs => bs.all id
/-- a module's constant that is data -/
def GlobD (K : Fg) (mg : Str → Option Value) (x : Str) (y : D) : Prop := ∃ v u, mg x = some u ∧ RelV v u ∧ Rp K (fun _ => none) v y
theorem qv_globD {X : Cx} {x : Str} {y : D} {pos : Pos} (h : GlobD X.K X.mg x y) (hg : Gl X x := by rfl) (hd : (x == ("__debug__" : Str)) = false := by decide) : QV X (.Name x pos) (rC y) := by
  obtain ⟨v, u, h1, h2, h3⟩ := h
  exact qv_glob h1 h2 h3 hg hd
theorem isTrue_call (f : Expr) (es : List Expr) (ks : List Keyword) (p : Pos) (env : PySem.Env) (whole : Sem Value) : PySem.isTrue (.Call f es ks p) env whole = (do let v ← whole; standAt (Expr.Call f es ks p).pos; holding [v] (truthy v)) := by
  first | rfl | (rw [PySem.isTrue]; all_goals intros; contradiction)
theorem qt_call {X : Cx} {f : Expr} {es : List Expr} {ks : List Keyword} {p : Pos} {r : RV} (h : QV X (.Call f es ks p) r) : QT X (.Call f es ks p) (rTb r) := qt_val h fun _ => isTrue_call _ _ _ _ _ _
end Pf
set_option Elab.async false
set_option linter.all false
set_option maxRecDepth 100000
set_option maxHeartbeats 4000000
/-! Pf: extend, isinstance, index of a tuple, list(range(..)), xs[::-1]. -/
namespace Pf
open PySem PySem.Spec PyProof.Rows L2

/-! ### x.extend(e) -/
def rExtR : V → List V → Hp → VK → Prop := fun x vs H Q => ∃ l b xs zs, x = .ref l ∧ vs = [.ref b] ∧ H l = some (.lst xs) ∧ Rd H b (.lst zs) ∧ xs.length + zs.length ≤ sizeLine ∧ Q .non (upd H l (.lst (xs ++ zs)))
theorem mt_extendR {X : Cx} : MtM X "list.extend" rExtR := by
  intro pins s σ H x vs v us Q I rx rv ⟨l, b, xs, zs, ex, ev, hH, hB, hz, q⟩
  subst ex ev
  cases rx
  obtain ⟨u, rfl, ru⟩ := rv.one
  cases ru
  obtain ⟨_, A, n, ra, la, ea⟩ := I.lstM hH
  obtain ⟨_, B, m, rb, lb, eb⟩ := lstR I hB
  have small : A.toArray.size + B.toArray.size ≤ sizeLine := by
    rw [List.size_toArray, List.size_toArray, ← la, ← lb]
    exact hz
  have long : ¬ (!A.toArray.isEmpty && Builtin.List.listTooLong (A.toArray.size + B.toArray.size)) = true := fun z => by
    rw [notLongL small, Bool.and_false] at z
    cases z
  have sA : A.toArray.size ≤ sizeLine := by omega
  have step := AutoSeq1.list_extend_list_list_0 l A.toArray n b B.toArray m long sA (Nat.le_succ_of_le small)
  refine call_meets F.slot_list_extend ⟨_, ea, rfl⟩ F.entry_list_extend (F.args_list_extend_2 _ _) step ⟨ea, eb, .non, _, ?_, rfl, q⟩
  exact I.lset (its' := A ++ B) hH ea (by simp) (ra.append rb) (by rw [List.length_append]; exact hz)
def rExt (k : Nat) (re : RV) : RE := fun env Q => ownAt env k fun _ => re env fun y e => match y with
  | .list ys => ownAt e k fun xs => xs.length + ys.length ≤ sizeLine ∧ Q (.d .none) (e.set k (some (.own (xs ++ ys))))
  | _ => False
theorem qe_extend {X : Cx} (k : Nat) {x : Str} {a : Expr} {re : RV} {px apos cpos : Pos} (he : QV X a re) (hN : X.N[k]? = some x := by rfl) (hv : Vis X.env.scope x := by first | exact Or.inl rfl | exact Or.inr (Or.inl rfl) | exact Or.inr (Or.inr rfl)) (hd : (x == ("__debug__" : Str)) = false := by decide)
    (hcd : (x == ("__classdict__" : Str)) = false := by decide) (hbase : attributeBase (.Name x px) "extend" X.env (eval (.Name x px) X.env) = eval (.Name x px) X.env := by rfl)
    (hfew : ((backTo cpos (starEach [a] X.env)).all (fun x => !x.1) && (backToKw cpos (keywordEach [] X.env)).all (fun x => x.1.isSome) && decide (([a] : List Expr).length + ([] : List Keyword).length + (if ([] : List Keyword).isEmpty then 0 else 1) < 30)) = true := by rfl)
    (hline : (apos.endLine == cpos.line) = true := by rfl) (hs : starEach [a] X.env = (false, eval a X.env) :: starEach [] X.env := by rfl) (hplain : (backTo cpos (starEach [] X.env)).any (·.1) = false := by rfl) :
    QE X (.Call (.Attribute (.Name x px) "extend" apos) [a] [] cpos) (rExt k re) := by
  refine ⟨fun env Q Q' f q => q.mono fun xs z => he.mono _ _ _ (fun y e z => ?_) z, pe_imp (pe_bm PySem.F.plainAttrs_list PySem.F.slot_list_extend PySem.F.type_list_extend mt_extendR (pe_var hN hv hd hcd) (pa_cons he.run pa_nil hs) hbase hfew hline hs hplain) ?_⟩
  · split at z
    · exact z.mono fun xs z => ⟨z.1, f _ _ z.2⟩
    · exact z
  intro σ H Q ⟨env, G, F, rep, q⟩
  obtain ⟨xs, g1, h1⟩ := q.get
  obtain ⟨p, vs, g2, g3, g4, _⟩ := rep.mut g1
  refine ⟨.ref p, g2, ty_list g3, ?_⟩
  refine liftV_of he.mono rep h1 fun y e v G1 H1 h1 s1 rep1 d1 => ?_
  split at h1
  · cases d1 with
    | lst gz dz =>
      obtain ⟨ys, g5, h2, h3⟩ := h1.get
      obtain ⟨p', ws, g6, g7, g8, g9⟩ := rep1.mut g5
      rw [g2] at g6
      cases g6
      exact ⟨p, _, ws, _, rfl, rfl, g7, rd_mono rep1.gh gz, by rw [rps_len g8, rps_len dz]; exact h2, h3 .non G1 _ s1 (.of (g9 _ _ (rps_append g8 dz)) .non)⟩
  · exact h1.elim

/-! ### isinstance(x, T) -/
def tyN : D → String
  | .none => "NoneType"
  | .bool _ => "bool"
  | .int _ => "int"
  | .str _ => "str"
  | .list _ => "list"
  | .tuple _ => "tuple"
  | .dict _ => "dict"
def isInt : D → Bool
  | .int _ => true
  | .bool _ => true
  | _ => false
def isBool : D → Bool
  | .bool _ => true
  | _ => false
def isStr : D → Bool
  | .str _ => true
  | _ => false
def isTuple : D → Bool
  | .tuple _ => true
  | _ => false
def isList : D → Bool
  | .list _ => true
  | _ => false
theorem pk_ty {K : Fg} {G H : Hp} {v : V} {x : D} (h : Pk K G H v x) (s : Same G H) : TyX K H v (.type (tyN x)) := by
  rcases h with h | ⟨p, vs, xs, rfl, rfl, h1, _⟩
  · cases h with
    | non => exact .base .non
    | bl b => exact .base (.bl b)
    | int i => exact .base (.int i)
    | str z => exact .base (.str z)
    | lst g _ =>
      rcases rd_mono s g with g | ⟨o, g⟩
      · exact .base (.lst g)
      · exact .base (.frz g)
    | tup g _ =>
      rcases tq_mono s g with ⟨o, g, _⟩ | ⟨o, its, n, g1, g2, _⟩
      · exact .fTuple g
      · exact .kTuple g1 g2
  · exact .base (.lst h1)
def rIsi (f : D → Bool) (ra : RP) : RV := fun env Q => ra env fun a e => dref e a fun x => Q (.bool (f x)) e
theorem qv_isi {X : Cx} {T : String} {f : D → Bool} {c : Str} {a : Expr} {ra : RP} {p p2 pos : Pos} (hk : ∀ x : D, kitB (tyN x) T = some (f x)) (hv : bootBuiltins c = some (.type T)) (hm : X.mg "isinstance" = none) (hm2 : X.mg c = none) (ha : QP X a ra)
    (hg : Gl X "isinstance" := by rfl) (hg2 : Gl X c := by rfl) (hd : (c == ("__debug__" : Str)) = false := by decide) (hn : c ≠ "__name__" := by decide) (he : starEach [a, .Name c p2] X.env = (false, eval a X.env) :: starEach [.Name c p2] X.env := by rfl)
    (he2 : starEach [.Name c p2] X.env = (false, eval (.Name c p2) X.env) :: starEach [] X.env := by rfl) (hpl : (backTo pos (starEach [.Name c p2] X.env)).any (·.1) = false := by rfl) : QV X (.Call (.Name "isinstance" p) [a, .Name c p2] [] pos) (rIsi f ra) := by
  have hc : PE X (.Name c p2) (tC (.ty T)) := pe_bltn hg2 hm2 hv rfl hn hd
  refine ⟨fun env Q Q' g q => ha.mono _ _ _ (fun x e z => dref.mono (fun x => g _ e) z) q, pe_imp (pe_callB call_isi hg hm (by decide +kernel) (pa_cons ha.run (pa_cons hc pa_nil he2) he) (by decide) (by decide) he hpl) ?_⟩
  intro σ H Q ⟨env, G, F, rep, q⟩
  refine liftP_of ha.mono rep q fun x e v G1 H1 h1 s1 rep1 d1 => ?_
  obtain ⟨y, p1, h2⟩ := dref_pk rep1 d1 h1
  exact ⟨v, .ty T, .type (tyN y), .type T, f y, rfl, .ty T, pk_ty p1 rep1.gh, kit_ty (hk y), h2 _ G1 H1 s1 rep1 (.bl _)⟩
theorem kit_all {T : String} {f : D → Bool} (a0 : kitB "NoneType" T = some (f .none)) (a1 : ∀ b, kitB "bool" T = some (f (.bool b))) (a2 : ∀ b, kitB "int" T = some (f (.int b))) (a3 : ∀ b, kitB "str" T = some (f (.str b))) (a4 : ∀ b, kitB "list" T = some (f (.list b))) (a5 : ∀ b, kitB "tuple" T = some (f (.tuple b)))
    (a6 : ∀ b, kitB "dict" T = some (f (.dict b))) (x : D) : kitB (tyN x) T = some (f x) := by
  cases x
  · exact a0
  · exact a1 _
  · exact a2 _
  · exact a3 _
  · exact a4 _
  · exact a5 _
  · exact a6 _
theorem kit_int (x : D) : kitB (tyN x) "int" = some (isInt x) := kit_all
  (show kitB "NoneType" "int" = some false from by decide +kernel)
  (fun _ => (show kitB "bool" "int" = some true from by decide +kernel))
  (fun _ => (show kitB "int" "int" = some true from by decide +kernel))
  (fun _ => (show kitB "str" "int" = some false from by decide +kernel))
  (fun _ => (show kitB "list" "int" = some false from by decide +kernel))
  (fun _ => (show kitB "tuple" "int" = some false from by decide +kernel))
  (fun _ => (show kitB "dict" "int" = some false from by decide +kernel)) x
theorem kit_bool (x : D) : kitB (tyN x) "bool" = some (isBool x) := kit_all
  (show kitB "NoneType" "bool" = some false from by decide +kernel)
  (fun _ => (show kitB "bool" "bool" = some true from by decide +kernel))
  (fun _ => (show kitB "int" "bool" = some false from by decide +kernel))
  (fun _ => (show kitB "str" "bool" = some false from by decide +kernel))
  (fun _ => (show kitB "list" "bool" = some false from by decide +kernel))
  (fun _ => (show kitB "tuple" "bool" = some false from by decide +kernel))
  (fun _ => (show kitB "dict" "bool" = some false from by decide +kernel)) x
theorem kit_str (x : D) : kitB (tyN x) "str" = some (isStr x) := kit_all
  (show kitB "NoneType" "str" = some false from by decide +kernel)
  (fun _ => (show kitB "bool" "str" = some false from by decide +kernel))
  (fun _ => (show kitB "int" "str" = some false from by decide +kernel))
  (fun _ => (show kitB "str" "str" = some true from by decide +kernel))
  (fun _ => (show kitB "list" "str" = some false from by decide +kernel))
  (fun _ => (show kitB "tuple" "str" = some false from by decide +kernel))
  (fun _ => (show kitB "dict" "str" = some false from by decide +kernel)) x
theorem kit_tuple (x : D) : kitB (tyN x) "tuple" = some (isTuple x) := kit_all
  (show kitB "NoneType" "tuple" = some false from by decide +kernel)
  (fun _ => (show kitB "bool" "tuple" = some false from by decide +kernel))
  (fun _ => (show kitB "int" "tuple" = some false from by decide +kernel))
  (fun _ => (show kitB "str" "tuple" = some false from by decide +kernel))
  (fun _ => (show kitB "list" "tuple" = some false from by decide +kernel))
  (fun _ => (show kitB "tuple" "tuple" = some true from by decide +kernel))
  (fun _ => (show kitB "dict" "tuple" = some false from by decide +kernel)) x
theorem kit_list (x : D) : kitB (tyN x) "list" = some (isList x) := kit_all
  (show kitB "NoneType" "list" = some false from by decide +kernel)
  (fun _ => (show kitB "bool" "list" = some false from by decide +kernel))
  (fun _ => (show kitB "int" "list" = some false from by decide +kernel))
  (fun _ => (show kitB "str" "list" = some false from by decide +kernel))
  (fun _ => (show kitB "list" "list" = some true from by decide +kernel))
  (fun _ => (show kitB "tuple" "list" = some false from by decide +kernel))
  (fun _ => (show kitB "dict" "list" = some false from by decide +kernel)) x

section
variable {X : Cx} {a : Expr} {ra : RP} {p p2 pos : Pos}
theorem qv_isi_int (hm : X.mg "isinstance" = none) (hm2 : X.mg "int" = none) (ha : QP X a ra) (hg : Gl X "isinstance" := by rfl) (hg2 : Gl X "int" := by rfl) (he : starEach [a, .Name "int" p2] X.env = (false, eval a X.env) :: starEach [.Name "int" p2] X.env := by rfl)
    (he2 : starEach [.Name "int" p2] X.env = (false, eval (.Name "int" p2) X.env) :: starEach [] X.env := by rfl) (hpl : (backTo pos (starEach [.Name "int" p2] X.env)).any (·.1) = false := by rfl) :
    QV X (.Call (.Name "isinstance" p) [a, .Name "int" p2] [] pos) (rIsi isInt ra) := qv_isi kit_int (by decide +kernel) hm hm2 ha hg hg2 (by decide) (by decide) he he2 hpl
theorem qv_isi_bool (hm : X.mg "isinstance" = none) (hm2 : X.mg "bool" = none) (ha : QP X a ra) (hg : Gl X "isinstance" := by rfl) (hg2 : Gl X "bool" := by rfl) (he : starEach [a, .Name "bool" p2] X.env = (false, eval a X.env) :: starEach [.Name "bool" p2] X.env := by rfl)
    (he2 : starEach [.Name "bool" p2] X.env = (false, eval (.Name "bool" p2) X.env) :: starEach [] X.env := by rfl) (hpl : (backTo pos (starEach [.Name "bool" p2] X.env)).any (·.1) = false := by rfl) :
    QV X (.Call (.Name "isinstance" p) [a, .Name "bool" p2] [] pos) (rIsi isBool ra) := qv_isi kit_bool (by decide +kernel) hm hm2 ha hg hg2 (by decide) (by decide) he he2 hpl
theorem qv_isi_str (hm : X.mg "isinstance" = none) (hm2 : X.mg "str" = none) (ha : QP X a ra) (hg : Gl X "isinstance" := by rfl) (hg2 : Gl X "str" := by rfl) (he : starEach [a, .Name "str" p2] X.env = (false, eval a X.env) :: starEach [.Name "str" p2] X.env := by rfl)
    (he2 : starEach [.Name "str" p2] X.env = (false, eval (.Name "str" p2) X.env) :: starEach [] X.env := by rfl) (hpl : (backTo pos (starEach [.Name "str" p2] X.env)).any (·.1) = false := by rfl) :
    QV X (.Call (.Name "isinstance" p) [a, .Name "str" p2] [] pos) (rIsi isStr ra) := qv_isi kit_str (by decide +kernel) hm hm2 ha hg hg2 (by decide) (by decide) he he2 hpl
theorem qv_isi_tuple (hm : X.mg "isinstance" = none) (hm2 : X.mg "tuple" = none) (ha : QP X a ra) (hg : Gl X "isinstance" := by rfl) (hg2 : Gl X "tuple" := by rfl) (he : starEach [a, .Name "tuple" p2] X.env = (false, eval a X.env) :: starEach [.Name "tuple" p2] X.env := by rfl)
    (he2 : starEach [.Name "tuple" p2] X.env = (false, eval (.Name "tuple" p2) X.env) :: starEach [] X.env := by rfl) (hpl : (backTo pos (starEach [.Name "tuple" p2] X.env)).any (·.1) = false := by rfl) :
    QV X (.Call (.Name "isinstance" p) [a, .Name "tuple" p2] [] pos) (rIsi isTuple ra) := qv_isi kit_tuple (by decide +kernel) hm hm2 ha hg hg2 (by decide) (by decide) he he2 hpl
theorem qv_isi_list (hm : X.mg "isinstance" = none) (hm2 : X.mg "list" = none) (ha : QP X a ra) (hg : Gl X "isinstance" := by rfl) (hg2 : Gl X "list" := by rfl) (he : starEach [a, .Name "list" p2] X.env = (false, eval a X.env) :: starEach [.Name "list" p2] X.env := by rfl)
    (he2 : starEach [.Name "list" p2] X.env = (false, eval (.Name "list" p2) X.env) :: starEach [] X.env := by rfl) (hpl : (backTo pos (starEach [.Name "list" p2] X.env)).any (·.1) = false := by rfl) :
    QV X (.Call (.Name "isinstance" p) [a, .Name "list" p2] [] pos) (rIsi isList ra) := qv_isi kit_list (by decide +kernel) hm hm2 ha hg hg2 (by decide) (by decide) he he2 hpl
end

/-! ### t.index(x), texts -/
def rIndex (ra re : RV) : RV := fun env Q => ra env fun t e => match t with
  | .tuple ts => re e fun y e1 => match y with
    | .str z => ∃ ys j, strsOf ts = some ys ∧ ys[j]? = some z ∧ (∀ m, m < j → ys[m]? ≠ some z) ∧ Q (.int (j : Nat)) e1
    | _ => False
  | _ => False
theorem qv_index {X : Cx} {o a : Expr} {ra re : RV} {apos cpos : Pos} (ho : QV X o ra) (he : QV X a re) (hbase : attributeBase o "index" X.env (eval o X.env) = eval o X.env := by rfl)
    (hfew : ((backTo cpos (starEach [a] X.env)).all (fun x => !x.1) && (backToKw cpos (keywordEach [] X.env)).all (fun x => x.1.isSome) && decide (([a] : List Expr).length + ([] : List Keyword).length + (if ([] : List Keyword).isEmpty then 0 else 1) < 30)) = true := by rfl)
    (hline : (apos.endLine == cpos.line) = true := by rfl) (hs : starEach [a] X.env = (false, eval a X.env) :: starEach [] X.env := by rfl) (hplain : (backTo cpos (starEach [] X.env)).any (·.1) = false := by rfl) :
    QV X (.Call (.Attribute o "index" apos) [a] [] cpos) (rIndex ra re) := by
  refine ⟨fun env Q Q' f q => ho.mono _ _ _ (fun t e z => ?_) q, pe_imp (pe_tm (te := liftV X.K re) PySem.F.slot_tuple_index PySem.F.type_tuple_index mt_tup_index ho.run (pa_cons he.run pa_nil hs) hbase hfew hline hs hplain) ?_⟩
  · split at z
    · refine he.mono _ _ _ (fun y e z => ?_) z
      split at z
      · obtain ⟨ys, j, a, b, c, z⟩ := z
        exact ⟨ys, j, a, b, c, f _ _ z⟩
      · exact z
    · exact z
  intro σ H Q ⟨env, G, F, rep, q⟩
  refine liftV_of ho.mono rep q fun t e v G1 H1 h1 s1 rep1 d1 => ?_
  split at h1
  · rename_i ts
    cases d1 with
    | tup g d =>
      refine ⟨⟨_, _, rfl, tq_mono rep1.gh g⟩, ?_⟩
      refine liftV_of he.mono rep1 h1 fun y e2 u G2 H2 h2 s2 rep2 d2 => ?_
      split at h2
      · obtain ⟨ys, j, e1, e3, e4, h3⟩ := h2
        cases d2
        have e5 := rps_strsOf d e1
        subst e5
        exact ⟨_, ys, _, j, rfl, rfl, (tq_mono (s2.trans rep2.gh) g).sq, e3, e4, h3 _ G2 H2 (s1.trans s2) rep2 (.int _)⟩
      · exact h2.elim
  · exact h1.elim

/-! ### list(range(n)) -/
def rListRg (r : RV) : RE := fun env Q => r env fun x e => match x with
  | .int n => 0 ≤ n ∧ n ≤ 16777216 ∧ Q (.own (rngD 0 n)) e
  | _ => False
theorem rps_rg {K : Fg} {G : Hp} (a b : Int) : RpAll K G (rgV a b) (rngD a b) := by
  unfold rgV rngD
  generalize List.range (b - a).toNat = l
  induction l with
  | nil => exact .nil
  | cons x l ih => exact .cons (.int _) ih
theorem qe_listrg {X : Cx} {a : Expr} {r : RV} {p p2 q pos : Pos} (hc : X.calm = true) (hm : X.mg "list" = none) (hm2 : X.mg "range" = none) (h : QV X a r) (hg : Gl X "list" := by rfl) (hg2 : Gl X "range" := by rfl) (na : starEach [a] X.env = (false, eval a X.env) :: starEach [] X.env := by rfl)
    (nb : starEach [.Call (.Name "range" p2) [a] [] q] X.env = (false, eval (.Call (.Name "range" p2) [a] [] q) X.env) :: starEach [] X.env := by rfl) : QE X (.Call (.Name "list" p) [.Call (.Name "range" p2) [a] [] q] [] pos) (rListRg r) := by
  refine ⟨fun env Q Q' f q => h.mono _ _ _ (fun x e z => ?_) q, pe_imp (pe_listRg hc hg hm (prg_1 hg2 hm2 h.run na) nb) ?_⟩
  · split at z
    · exact ⟨z.1, z.2.1, f _ _ z.2.2⟩
    · exact z
  intro σ H Q ⟨env, G, F, rep, q⟩
  refine liftV_of h.mono rep q fun x e v G1 H1 h1 s1 rep1 d1 => ?_
  split at h1
  · cases d1
    exact ⟨_, rfl, RgOk.of_le (by omega) h1.2.1 (by omega) h1.1, fun q hq => h1.2.2 _ G1 _ s1 (rep1.lst hq (rps_rg _ _))⟩
  · exact h1.elim

/-! ### xs[::-1] -/
def rRev (r : RP) : RE := fun env Q => r env fun a e => dref e a fun x => match x with
  | .list xs => Q (.own xs.reverse) e
  | _ => False
theorem qe_rev {X : Cx} {a : Expr} {r : RP} {k : Nat} {p1 p2 p3 pos : Pos} (h : QP X a r) : QE X (.Subscript a (.Slice none none (some (.UnaryOp .USub (.Constant (.int 1) k p1) p2)) p3) pos) (rRev r) := by
  refine ⟨fun env Q Q' f q => h.mono _ _ _ (fun x e z => dref.mono (fun y z => ?_) z) q, pe_imp (pe_revL h.run) ?_⟩
  · split at z
    · exact f _ _ z
    · exact z
  intro σ H Q ⟨env, G, F, rep, q⟩
  refine liftP_of h.mono rep q fun x e v G1 H1 h1 s1 rep1 d1 => ?_
  obtain ⟨y, p1, h2⟩ := dref_pk rep1 d1 h1
  split at h2
  · obtain ⟨p, vs, rfl, g1, d2⟩ := p1.lst rep1.gh
    exact ⟨p, vs, rfl, .inl g1, fun q hq => h2 _ G1 _ s1 (rep1.lst hq (rps_rev d2))⟩
  · exact h2.elim
end Pf
set_option Elab.async false
set_option linter.all false
set_option maxRecDepth 100000
set_option maxHeartbeats 4000000
/-! Pf: the law's own pool: a list of a list of great numbers, of what is left of one, of the brew. -/
namespace Pf
open PySem PySem.Spec PyProof.Rows L2

def poolOk (g : List Int) (c b : Int) (H : Hp) (v : V) (fp : List Addr) : Prop := ∃ p q, v = .ref p ∧ fp = [p, q] ∧ p ≠ q ∧ H p = some (.lst [.ref q, .int c, .int b]) ∧ H q = some (.lst (g.map V.int))
def poolR (g : List Int) (c b : Int) : Res where
  ok := poolOk g c b
  loc := fun ⟨p, q, a1, a2, a3, a4, a5⟩ e => by
    subst a2
    exact ⟨p, q, a1, rfl, a3, by rw [e p (by simp)]; exact a4, by rw [e q (by simp)]; exact a5⟩
  dom := fun ⟨p, q, a1, a2, a3, a4, a5⟩ a m => by
    subst a2
    rcases List.mem_cons.mp m with m | m
    · rw [m, a4]
      exact fun z => nomatch z
    · rw [List.mem_singleton.mp m, a5]
      exact fun z => nomatch z
  nd := fun ⟨p, q, a1, a2, a3, a4, a5⟩ => by
    subst a2
    simp [a3]
section
variable {K : Fg} {G F H : Hp} {σ : L2.St} {env : Env}
theorem Rep.pool {g : List Int} {c b : Int} {k : Nat} (r : Rep K G F H σ env) (h : env[k]? = some (some (.res (poolR g c b)))) : ∃ p q, σ[k]? = some (some (.ref p)) ∧ p ≠ q ∧ H p = some (.lst [.ref q, .int c, .int b]) ∧ H q = some (.lst (g.map V.int)) ∧
    ∀ H' g' c' b', (∀ a, a ≠ p → a ≠ q → H' a = H a) → H' p = some (.lst [.ref q, .int c', .int b']) → H' q = some (.lst (g'.map V.int)) → Rep K G F H' σ (env.set k (some (.res (poolR g' c' b')))) := by
  obtain ⟨fp, s, w⟩ := r
  obtain ⟨fa, f1, fb, x, e1, e2, ⟨v, ex, p, q, e4, e5, ne, hp, hq⟩, gg⟩ := s.split h
  subst e1 ex e4 e5
  refine ⟨p, q, e2, ne, hp, hq, fun H' g' c' b' out hp' hq' => ?_⟩
  have mp : p ∈ fa ++ ([p, q] ++ fb) := by simp
  have mq : q ∈ fa ++ ([p, q] ++ fb) := by simp
  have nd := List.nodup_append.mp w.nd
  have nd2 := List.nodup_append.mp nd.2.1
  have hn : ∀ a ∈ fa ++ fb, a ≠ p ∧ a ≠ q := fun a m => by
    rcases List.mem_append.mp m with m | m
    · exact ⟨fun z => nd.2.2 a m p (by simp) z, fun z => nd.2.2 a m q (by simp) z⟩
    · exact ⟨fun z => nd2.2.2 p (by simp) a m z.symm, fun z => nd2.2.2 q (by simp) a m z.symm⟩
  have s2 := gg G H' (some (.ref p)) (some (.res (poolR g' c' b'))) [p, q] idS (fun a m => out a (hn a m).1 (hn a m).2) ⟨_, rfl, p, q, rfl, rfl, ne, hp', hq'⟩
  rw [set_self e2] at s2
  have keep : ∀ (B : Hp), B p = none → B q = none → Same B H → Same B H' := fun B b1 b2 s a o e => by
    rw [out a (fun z => by rw [z, b1] at e; cases e) (fun z => by rw [z, b2] at e; cases e)]
    exact s a o e
  exact ⟨_, s2, keep G (w.pg p mp) (w.pg q mq) w.gh, keep F (w.pf p mp) (w.pf q mq) w.fh, w.gf, w.nd, w.pg, w.pf⟩
/-- a value of one's own set aside among what others hold -/
theorem RepV.hold {v : V} {xs : List D} (r : RepV K G F H σ env v (.own xs)) : ∃ p vs, v = .ref p ∧ F p = none ∧ RpAll K G vs xs ∧ Rep K G (upd F p (.lst vs)) H σ env := by
  obtain ⟨fp, fpv, s, ⟨p, vs, rfl, rfl, hp, hd⟩, w⟩ := r
  have nd := w.nd
  rw [List.singleton_append, List.nodup_cons] at nd
  have hF : F p = none := w.pf p (by simp)
  have hG : G p = none := w.pg p (by simp)
  refine ⟨p, vs, rfl, hF, hd, fp, s, w.gh, same_updL w.fh hp, fun a e => ?_, nd.2, fun a m => w.pg a (List.mem_append_right _ m), fun a m => ?_⟩
  · rw [upd_ne (fun z => e (by rw [z]; exact hG))]
    exact w.gf a e
  · rw [upd_ne (fun z => nd.1 (by rw [← z]; exact m))]
    exact w.pf a (List.mem_append_right _ m)
/-- .. and laid into a new list, with two ints -/
theorem Rep.pooled {q p : Addr} {g : List Int} {c b : Int} (r : Rep K G (upd F q (.lst (g.map V.int))) H σ env) (hF : F q = none) (hp : H p = none) : RepV K G F (upd H p (.lst [.ref q, .int c, .int b])) σ env (.ref p) (.res (poolR g c b)) := by
  obtain ⟨fp, s, w⟩ := r
  have hq : H q = some (.lst (g.map V.int)) := w.fh q _ upd_same
  have ne : p ≠ q := fun z => by
    rw [z, hq] at hp
    cases hp
  have outp : ∀ a ∈ fp, a ≠ p := fun a m z => s.dom a m (by rw [z]; exact hp)
  have outq : ∀ a ∈ fp, a ≠ q := fun a m z => by
    have := w.pf a m
    rw [z, upd_same] at this
    cases this
  have gq : G q = none := none_of fun o e => by
    have := w.gf q (by rw [e]; exact fun z => nomatch z)
    rw [upd_same] at this
    cases this
  have gp : G p = none := same_none w.gh hp
  have fpn : F p = none := same_none (G := upd F q (.lst (g.map V.int))) w.fh hp |> fun z => by rw [upd_ne ne] at z; exact z
  refine ⟨fp, [p, q], s.mono idS fun a m => upd_ne (outp a m), ⟨p, q, rfl, rfl, ne, upd_same, by rw [upd_ne ne.symm]; exact hq⟩, fun a o e => ?_, fun a o e => ?_, fun a e => ?_, ?_, fun a m => ?_, fun a m => ?_⟩
  · rw [upd_ne (fun z => by rw [z, gp] at e; cases e)]
    exact w.gh a o e
  · rw [upd_ne (fun z => by rw [z, fpn] at e; cases e)]
    exact w.fh a o (by rw [upd_ne (fun z => by rw [z, hF] at e; cases e)]; exact e)
  · have := w.gf a e
    by_cases z : a = q
    · rw [z]; exact hF
    · rw [upd_ne z] at this
      exact this
  · show (p :: q :: fp).Nodup
    rw [List.nodup_cons, List.nodup_cons, List.mem_cons, not_or]
    exact ⟨⟨ne, fun m => outp p m rfl⟩, fun m => outq q m rfl, w.nd⟩
  · rcases List.mem_cons.mp m with m | m
    · rw [m]; exact gp
    · rcases List.mem_cons.mp m with m | m
      · rw [m]; exact gq
      · exact w.pg a m
  · rcases List.mem_cons.mp m with m | m
    · rw [m]; exact fpn
    · rcases List.mem_cons.mp m with m | m
      · rw [m]; exact hF
      · have := w.pf a m
        rw [upd_ne (outq a m)] at this
        exact this
end
/-- [great, cur, brew] -/
def rPool (ra : RE) (rb rc : RV) : RE := fun env Q => ra env fun o e => match o with
  | .own xs => ∃ g, intsOf xs = some g ∧ rb e fun x e => rc e fun y e => match x, y with
    | .int c, .int b => Q (.res (poolR g c b)) e
    | _, _ => False
  | _ => False
section
variable {X : Cx}
theorem qe_pool {a b c : Expr} {ra : RE} {rb rc : RV} {pos : Pos} (ha : QE X a ra) (hb : QV X b rb) (hc : QV X c rc) (h1 : starEach [a, b, c] X.env = (false, eval a X.env) :: starEach [b, c] X.env := by rfl) (h2 : starEach [b, c] X.env = (false, eval b X.env) :: starEach [c] X.env := by rfl)
    (h3 : starEach [c] X.env = (false, eval c X.env) :: starEach [] X.env := by rfl) : QE X (.List [a, b, c] pos) (rPool ra rb rc) := by
  refine ⟨fun env Q Q' f q => ha.mono _ _ _ (fun o e z => ?_) q, pe_imp (pe_lst (pa_cons ha.run (pa_cons hb.run (pa_cons hc.run pa_nil h3) h2) h1)) ?_⟩
  · split at z
    · obtain ⟨g, e1, z⟩ := z
      refine ⟨g, e1, hb.mono _ _ _ (fun x e z => hc.mono _ _ _ (fun y e z => ?_) z) z⟩
      split at z
      · exact f _ _ z
      · exact z
    · exact z
  intro σ H Q ⟨env, G, F, rep, q⟩
  refine liftO_of ha.mono rep q fun o e v G1 H1 h1 s1 rep1 => ?_
  split at h1
  · obtain ⟨g, e1, h1⟩ := h1
    obtain ⟨p, vs, rfl, hF, hd, rh⟩ := rep1.hold
    have ev := rps_intsOf hd e1
    subst ev
    refine liftV_of hb.mono rh h1 fun x e2 u G2 H2 h2 s2 rep2 d2 => ?_
    refine liftV_of hc.mono rep2 h2 fun y e3 w G3 H3 h3 s3 rep3 d3 => ?_
    split at h3
    · cases d2
      cases d3
      exact ⟨by show 3 ≤ sizeLine; rw [sizeLine_eq]; omega, fun l hl => h3 _ G3 _ ((s1.trans s2).trans s3) (rep3.pooled hF hl)⟩
    · exact h3.elim
  · exact h1.elim
end
/-- the pool in slot k -/
def poolAt (e : Env) (k : Nat) (f : List Int → Int → Int → Prop) : Prop := ∃ g c b, e[k]? = some (some (.res (poolR g c b))) ∧ f g c b
theorem poolAt.mono {e : Env} {k : Nat} {f f' : List Int → Int → Int → Prop} (m : ∀ g c b, f g c b → f' g c b) (h : poolAt e k f) : poolAt e k f' := let ⟨g, c, b, a, z⟩ := h; ⟨g, c, b, a, m _ _ _ z⟩
def rPool1 (k : Nat) : RV := fun env Q => poolAt env k fun g c b => Q (.int c) env
def rPool2 (k : Nat) : RV := fun env Q => poolAt env k fun g c b => Q (.int b) env
def rPoolLen (k : Nat) : RV := fun env Q => poolAt env k fun g c b => Q (.int g.length) env
def rPoolPop (k : Nat) : RE := fun env Q => poolAt env k fun g c b => ∃ g' x, g = g' ++ [x] ∧ Q (.d (.int x)) (env.set k (some (.res (poolR g' c b))))
def rPoolSet1 (k : Nat) (r : RV) : RS := fun E env => r env fun x e => match x with
  | .int c' => poolAt e k fun g c b => E.nx (e.set k (some (.res (poolR g c' b))))
  | _ => False
def rPoolSet2 (k : Nat) (r : RV) : RS := fun E env => r env fun x e => match x with
  | .int b' => poolAt e k fun g c b => E.nx (e.set k (some (.res (poolR g c b'))))
  | _ => False
section
variable {X : Cx} {x : Str} {j : Nat} {px p1 p2 p3 p4 pos : Pos}
theorem upd_out {H : Hp} {p a : Addr} {o : HO} (h : a ≠ p) : upd H p o a = H a := upd_ne h
theorem qv_pool1 (k : Nat) (hN : X.N[k]? = some x := by rfl) (hv : Vis X.env.scope x := by first | exact Or.inl rfl | exact Or.inr (Or.inl rfl) | exact Or.inr (Or.inr rfl)) (hd : (x == ("__debug__" : Str)) = false := by decide)
    (hcd : (x == ("__classdict__" : Str)) = false := by decide) : QV X (.Subscript (.Name x px) (.Constant (.int 1) j p1) pos) (rPool1 k) := by
  refine ⟨fun env Q Q' f q => poolAt.mono (fun g c b => f _ _) q, pe_imp (pe_ix ix_list (pe_var hN hv hd hcd) pe_int (fun _ _ => rfl)) ?_⟩
  intro σ H Q ⟨env, G, F, rep, g, c, b, e, q⟩
  obtain ⟨p, r, e1, ne, hp, hq, f⟩ := rep.pool e
  exact ⟨.ref p, e1, p, _, 1, .int c, rfl, rfl, .inl (.inl hp), rfl, q _ G H idS rep (.int _)⟩
theorem qv_pool2 (k : Nat) (hN : X.N[k]? = some x := by rfl) (hv : Vis X.env.scope x := by first | exact Or.inl rfl | exact Or.inr (Or.inl rfl) | exact Or.inr (Or.inr rfl)) (hd : (x == ("__debug__" : Str)) = false := by decide)
    (hcd : (x == ("__classdict__" : Str)) = false := by decide) : QV X (.Subscript (.Name x px) (.Constant (.int 2) j p1) pos) (rPool2 k) := by
  refine ⟨fun env Q Q' f q => poolAt.mono (fun g c b => f _ _) q, pe_imp (pe_ix ix_list (pe_var hN hv hd hcd) pe_int (fun _ _ => rfl)) ?_⟩
  intro σ H Q ⟨env, G, F, rep, g, c, b, e, q⟩
  obtain ⟨p, r, e1, ne, hp, hq, f⟩ := rep.pool e
  exact ⟨.ref p, e1, p, _, 2, .int b, rfl, rfl, .inl (.inl hp), rfl, q _ G H idS rep (.int _)⟩
theorem qv_poollen (k : Nat) (hm : X.mg "len" = none) (hN : X.N[k]? = some x := by rfl) (hv : Vis X.env.scope x := by first | exact Or.inl rfl | exact Or.inr (Or.inl rfl) | exact Or.inr (Or.inr rfl)) (hd : (x == ("__debug__" : Str)) = false := by decide)
    (hcd : (x == ("__classdict__" : Str)) = false := by decide) (hg : Gl X "len" := by rfl) (he : starEach [.Subscript (.Name x px) (.Constant (.int 0) j p1) p2] X.env = (false, eval (.Subscript (.Name x px) (.Constant (.int 0) j p1) p2) X.env) :: starEach [] X.env := by rfl)
    (hpl : (backTo pos (starEach [] X.env)).any (·.1) = false := by rfl) : QV X (.Call (.Name "len" p3) [.Subscript (.Name x px) (.Constant (.int 0) j p1) p2] [] pos) (rPoolLen k) := by
  refine ⟨fun env Q Q' f q => poolAt.mono (fun g c b => f _ _) q, pe_imp (pe_callB call_len_seq hg hm (by decide +kernel) (pa_cons (pe_ix ix_list (pe_var hN hv hd hcd) pe_int (fun _ _ => rfl)) pa_nil he) (by decide) (by decide) he hpl) ?_⟩
  intro σ H Q ⟨env, G, F, rep, g, c, b, e, q⟩
  obtain ⟨p, r, e1, ne, hp, hq, f⟩ := rep.pool e
  refine ⟨.ref p, e1, p, _, 0, .ref r, rfl, rfl, .inl (.inl hp), rfl, r, _, rfl, .inl (.inl (.inl hq)), ?_⟩
  rw [List.length_map]
  exact q _ G H idS rep (.int _)
theorem qe_poolpop (k : Nat) (hN : X.N[k]? = some x := by rfl) (hv : Vis X.env.scope x := by first | exact Or.inl rfl | exact Or.inr (Or.inl rfl) | exact Or.inr (Or.inr rfl)) (hd : (x == ("__debug__" : Str)) = false := by decide)
    (hcd : (x == ("__classdict__" : Str)) = false := by decide) (hbase : attributeBase (.Subscript (.Name x px) (.Constant (.int 0) j p1) p2) "pop" X.env (eval (.Subscript (.Name x px) (.Constant (.int 0) j p1) p2) X.env) = eval (.Subscript (.Name x px) (.Constant (.int 0) j p1) p2) X.env := by rfl)
    (hline : (p3.endLine == pos.line) = true := by rfl) : QE X (.Call (.Attribute (.Subscript (.Name x px) (.Constant (.int 0) j p1) p2) "pop" p3) [] [] pos) (rPoolPop k) := by
  refine ⟨fun env Q Q' f q => poolAt.mono (fun g c b ⟨g', x, a, z⟩ => ⟨g', x, a, f _ _ z⟩) q, pe_imp (pe_bm0 PySem.F.plainAttrs_list PySem.F.slot_list_pop PySem.F.type_list_pop mt_pop (pe_ix ix_list (pe_var hN hv hd hcd) pe_int (fun _ _ => rfl)) hbase hline) ?_⟩
  intro σ H Q ⟨env, G, F, rep, g, c, b, e, g', y, eg, q⟩
  obtain ⟨p, r, e1, ne, hp, hq, f⟩ := rep.pool e
  subst eg
  refine ⟨.ref p, e1, p, _, 0, .ref r, rfl, rfl, .inl (.inl hp), rfl, ty_list hq, r, _, .int y, rfl, rfl, hq, ?_, ?_⟩
  · rw [List.length_map, List.length_append, List.map_append, List.getElem?_append_right (by rw [List.length_map]; simp)]
    simp
  · refine q (.int y) G _ idS (.of (f _ g' c b (fun a h1 h2 => upd_ne h2) ?_ ?_) (.int y))
    · rw [upd_ne ne]; exact hp
    · rw [upd_same, List.map_append, List.map_singleton, List.dropLast_concat]
end
section
variable {X : Cx} {kp : List Nat} {x : Str} {a : Expr} {r : RV} {j : Nat} {px p1 tp pos : Pos}
theorem qs_poolset1 (k : Nat) (he : QV X a r) (hN : X.N[k]? = some x := by rfl) (hv : Vis X.env.scope x := by first | exact Or.inl rfl | exact Or.inr (Or.inl rfl) | exact Or.inr (Or.inr rfl)) (hd : (x == ("__debug__" : Str)) = false := by decide)
    (hcd : (x == ("__classdict__" : Str)) = false := by decide)
    (ha : ∀ v, assign (.Subscript (.Name x px) (.Constant (.int 1) j p1) tp) X.env v = (do
      let ov ← holding [v] (eval (.Name x px) X.env)
      let iv ← holding [v, ov] (eval (.Constant (.int 1) j p1) X.env)
      standAt tp
      holding [v, ov, iv] (setItem ov iv v)
      release [v, ov, iv] []) := by intro _; rfl)
    (hs : swapsWithSole [.Subscript (.Name x px) (.Constant (.int 1) j p1) tp] a pos.line X.env = pure false := by rfl) (hw : swappedStores [.Subscript (.Name x px) (.Constant (.int 1) j p1) tp] a X.env = pure none := by rfl)
    (h1 : (assignEach [.Subscript (.Name x px) (.Constant (.int 1) j p1) tp] X.env).map (·.2) = [assign (.Subscript (.Name x px) (.Constant (.int 1) j p1) tp) X.env] := by rfl) : QS X kp (.Assign [.Subscript (.Name x px) (.Constant (.int 1) j p1) tp] a pos) (rPoolSet1 k r) := by
  refine ⟨fun A B env l q => he.mono _ _ _ (fun y e z => ?_) q, ps_imp (ps_asg he.run (pg_sub (pe_var hN hv hd hcd) pe_int set_list ha) hs hw h1) ?_⟩
  · split at z
    · exact poolAt.mono (fun g c b => l.1 _) z
    · exact z
  intro E σ H ⟨env, G, F, rep, q⟩
  refine liftV_of he.mono rep q fun y e1 v G1 H1 h1 s1 rep1 d1 => ?_
  split at h1
  · cases d1
    obtain ⟨g, c, b, e, q⟩ := h1
    obtain ⟨p, r, e1, ne, hp, hq, f⟩ := rep1.pool e
    refine ⟨.ref p, e1, p, _, 1, 1, rfl, rfl, hp, rfl, q σ G1 _ s1 keepS_refl (f _ g _ b (fun a h1 h2 => upd_ne h1) upd_same ?_)⟩
    rw [upd_ne ne.symm]
    exact hq
  · exact h1.elim
theorem qs_poolset2 (k : Nat) (he : QV X a r) (hN : X.N[k]? = some x := by rfl) (hv : Vis X.env.scope x := by first | exact Or.inl rfl | exact Or.inr (Or.inl rfl) | exact Or.inr (Or.inr rfl)) (hd : (x == ("__debug__" : Str)) = false := by decide)
    (hcd : (x == ("__classdict__" : Str)) = false := by decide)
    (ha : ∀ v, assign (.Subscript (.Name x px) (.Constant (.int 2) j p1) tp) X.env v = (do
      let ov ← holding [v] (eval (.Name x px) X.env)
      let iv ← holding [v, ov] (eval (.Constant (.int 2) j p1) X.env)
      standAt tp
      holding [v, ov, iv] (setItem ov iv v)
      release [v, ov, iv] []) := by intro _; rfl)
    (hs : swapsWithSole [.Subscript (.Name x px) (.Constant (.int 2) j p1) tp] a pos.line X.env = pure false := by rfl) (hw : swappedStores [.Subscript (.Name x px) (.Constant (.int 2) j p1) tp] a X.env = pure none := by rfl)
    (h1 : (assignEach [.Subscript (.Name x px) (.Constant (.int 2) j p1) tp] X.env).map (·.2) = [assign (.Subscript (.Name x px) (.Constant (.int 2) j p1) tp) X.env] := by rfl) : QS X kp (.Assign [.Subscript (.Name x px) (.Constant (.int 2) j p1) tp] a pos) (rPoolSet2 k r) := by
  refine ⟨fun A B env l q => he.mono _ _ _ (fun y e z => ?_) q, ps_imp (ps_asg he.run (pg_sub (pe_var hN hv hd hcd) pe_int set_list ha) hs hw h1) ?_⟩
  · split at z
    · exact poolAt.mono (fun g c b => l.1 _) z
    · exact z
  intro E σ H ⟨env, G, F, rep, q⟩
  refine liftV_of he.mono rep q fun y e1 v G1 H1 h1 s1 rep1 d1 => ?_
  split at h1
  · cases d1
    obtain ⟨g, c, b, e, q⟩ := h1
    obtain ⟨p, r, e1, ne, hp, hq, f⟩ := rep1.pool e
    refine ⟨.ref p, e1, p, _, 2, 2, rfl, rfl, hp, rfl, q σ G1 _ s1 keepS_refl (f _ g c _ (fun a h1 h2 => upd_ne h1) upd_same ?_)⟩
    rw [upd_ne ne.symm]
    exact hq
  · exact h1.elim
end
end Pf
set_option Elab.async false
set_option linter.all false
set_option maxRecDepth 100000
set_option maxHeartbeats 8000000
/-! Pf: len(set(t)), t a tuple of texts, no two alike. -/
namespace Pf
open PySem PySem.Spec PyProof.Rows L2

section
variable {P : Program} {w : World} {A : Around} {R : Result → Shared → Prop} {it : Addr} {fp wr : List Addr} {C : Array GenState → Array GenState → Prop} {m : Nat} {Y : Nat → Value → Prop} {St : Nat → Shared → Prop}
/-- how the set of the first i texts looks -/
abbrev TxtSet (P : Program) (w : World) (h : Heap) (a : Addr) (zs : List Str) (i : Nat) : Prop := h.SetOf (PySem.strKind P w) a (fun z => decide (z ∈ zs.take i)) i
theorem txtset_at {h h' : Heap} {a : Addr} {zs : List Str} {i : Nat} (e : ∀ o, h.get? a = some o → h'.get? a = some o) (x : TxtSet P w h a zs i) : TxtSet P w h' a zs i :=
  let ⟨o, c1, c2, c3, g, r⟩ := x
  ⟨o, c1, c2, c3, e o g, r⟩
theorem txtset_next {h : Heap} {a : Addr} {zs : List Str} {i : Nat} {z : Str} (nd : zs.Nodup) (hz : zs[i]? = some z) (x : h.SetOf (PySem.strKind P w) a (fun y => (fun y => decide (y ∈ zs.take i)) y || decide (y = z)) (if (fun y => decide (y ∈ zs.take i)) z = true then i else i + 1)) : TxtSet P w h a zs (i + 1) := by
  have hi := (List.getElem?_eq_some_iff.mp hz).1
  have out : z ∉ zs.take i := fun mem => by
    obtain ⟨j, hj, e⟩ := List.getElem_of_mem mem
    have hji : j < i := by
      rw [List.length_take] at hj
      omega
    rw [List.getElem_take] at e
    have := List.pairwise_iff_getElem.mp nd j i (by omega) hi hji
    rw [(List.getElem?_eq_some_iff.mp hz).2] at this
    exact this e
  refine SetOf_congr x (fun y => ?_) (by simp [out])
  rw [List.take_add_one, hz]
  simp [List.mem_append, Bool.decide_or]
theorem txt_loop (W : WalksS P w A.in1 it fp wr C m Y St) {T : Addr} (far : T ∉ fp) {zs : List Str} (lz : zs.length = m) (nd : zs.Nodup) (few : m + 1 < scanBound) (val : ∀ i v, Y i v → ∃ z t, zs[i]? = some z ∧ v = .str z t) :
    ∀ (todo i : Nat) (s : Shared), m - i = todo → i ≤ m → St i s → TxtSet P w s.heap T zs i → (∀ s', Moved (T :: wr) C s s' → TxtSet P w s'.heap T zs m → R (.ok (.ret .none)) s') → codeAny (model P w) A (.builtin "set.update.loop" ⟨[.ref T, .ref it], []⟩) R s := by
  have farW : T ∉ wr := fun z => far (W.sub _ z)
  have more : ∀ b ∈ wr, b ∈ T :: wr := fun b z => List.mem_cons_of_mem _ z
  intro todo
  induction todo with
  | zero =>
    intro i s et hi st now fin
    have ei : i = m := by omega
    subst ei
    refine codeAny_builtin PyProof.Rows.F.entry_set_update_loop ?_
    rw [Around.under_plainId PyProof.Rows.F.plain_set_update_loop _]
    refine (wpAny_bind (W.done s _ _ st fun s' mv => ?_) : wpAny _ A.in1 (pyNext (.ref it) >>= _) _ _ s)
    show wpAny _ A.in1 (ret Value.none) _ _ s'
    have done := fin s' (mv.mono more) (txtset_at (fun o e => mv.heap T o farW e) now)
    exact wpAny_pure done
  | succ todo ih =>
    intro i s et hi st now fin
    have lt : i < m := by omega
    refine codeAny_builtin PyProof.Rows.F.entry_set_update_loop ?_
    rw [Around.under_plainId PyProof.Rows.F.plain_set_update_loop _]
    refine (wpAny_bind (W.item i s _ _ lt st fun v s' y st' mv => ?_) : wpAny _ A.in1 (pyNext (.ref it) >>= _) _ _ s)
    obtain ⟨z, t, hz, ev⟩ := val i v y
    subst ev
    have now' : TxtSet P w s'.heap T zs i := txtset_at (fun o e => mv.heap T o farW e) now
    refine (wpAny_bind (wpAny_holding ?_) : wpAny _ A.in1 (holding [Value.str z t] (setAdd T (.str z t)) >>= _) _ _ s')
    unfold setAdd
    refine wpAny_holding ?_
    refine wpAny_bind ((PySem.strKind P w).pyHash (k := z) (strKind_is _ _ _ _) ?_)
    refine wpAny_setAddHashed_of (knd := PySem.strKind P w) (s := { s' with toks := s'.toks + 1 }) (strKind_is _ _ _ _) rfl now' (by omega) fun h' same next => ?_
    have step := txtset_next (P := P) (w := w) nd hz next
    refine wpAny_pure ⟨plainId_quiet PyProof.Rows.F.plain_set_update_loop _, ih (i + 1) _ (by omega) lt (W.frame _ s' _ _ st' (Nat.le_succ _) fun b inb o e => ?_) step fun s2 mv2 end2 => ?_⟩
    · rw [same.2 b fun q => far (q ▸ inb)]
      exact e
    · refine fin s2 (Moved.trans W.gtrans ((mv.mono more).then_heap (Nat.le_succ _) fun b o out e => ?_) mv2) end2
      rw [same.2 b fun q => out (q ▸ List.mem_cons_self)]
      exact e
end
section
variable {P : Program} {w : World} {A : Around} {E : Value → Shared → Prop} {s : Shared}
theorem txt_vals : ∀ {us : List Value} {zs : List Str}, Vals (zs.map V.str) us → ∀ (i : Nat) (v : Value), us[i]? = some v → ∃ z t, zs[i]? = some z ∧ v = .str z t
  | [], [], .nil, i, v, e => by simp at e
  | u :: us, z :: zs, .cons r k, 0, v, e => by
    obtain ⟨t, q⟩ := (show ∃ t, u = Value.str z t from r)
    have ev : u = v := by simpa using e
    exact ⟨z, t, rfl, ev ▸ q⟩
  | u :: us, z :: zs, .cons r k, i + 1, v, e => by
    obtain ⟨y, t, a, b⟩ := txt_vals k i v (by simpa using e)
    exact ⟨y, t, by simpa using a, b⟩
theorem set_txts {l : Addr} {its : List Value} {zs : List Str} {Q : Value → Shared → Prop} (calm : A.handled = none) (tup : s.heap.IsTuple l its.toArray) (r : Vals (zs.map V.str) its) (nd : zs.Nodup) (few : zs.length + 1 < scanBound)
    (fin : ∀ (h' : Heap) (tk : Nat), TxtSet P w h' s.heap.objs.size zs zs.length → (∀ b o, s.heap.get? b = some o → h'.get? b = some o) → Q (.ref s.heap.objs.size) { s with heap := h', toks := tk }) : wpAny (model P w) A (call (.type "set") [.ref l]) Q E s := by
  have lz : zs.length = its.toArray.size := by
    rw [List.size_toArray, ← r.length, List.length_map]
  obtain ⟨_, _, mro⟩ := PySem.F.called_set.mro
  have a1 := PySem.F.called_set.made
  have a2 := PySem.F.called_set.sub
  refine wpAny_call (codeAny_of_tree ((?_ : wpAny _ _ (callAny (.type "set") _) _ _ _)))
  refine wpAny_pure ⟨Code.quiet_builtin _ (by decide +kernel), codeAny_builtin PySem.F.entry_type_call ?_⟩
  rw [Around.under_plain (weight_type_call_type "set" [.ref l] []) rfl]
  have a3 := PySem.F.called_set.notType
  have a4 := PySem.F.called_set.canCreate
  have a5 := PySem.F.typeCall_set_1 (.ref l)
  repeat (any_goals (first | assumption | wp_step))
  refine codeAny_mono (code_set_new_1 (.ref l) (E := E) (Q₁ := fun ob s1 => ∃ b : Bool, ob = .ref s.heap.objs.size ∧ s1 = { s with heap := s.heap.push { cls := .type "set", dict := none, data := .set #[] 0 (.fresh 0 0 b) } }) fun b => ⟨b, rfl, rfl⟩) fun res s1 hres => ?_
  cases res with
  | error e => exact hres
  | ok fl =>
    cases fl with
    | ret ob =>
      obtain ⟨b, rfl, rfl⟩ := hres
      generalize hO : ({ cls := .type "set", dict := none, data := .set #[] 0 (.fresh 0 0 b) } : Obj) = O
      have live : O.isFreed = false := by
        rw [← hO]
        rfl
      have gO : (s.heap.push O).get? s.heap.objs.size = some O := Heap.get?_push_size _ live
      have ty : Shared.TypeIs { s with heap := s.heap.push O } (.ref s.heap.objs.size) "set" := ⟨_, gO, by rw [← hO]⟩
      have a6 := PySem.F.called_set.init.lookup
      have a7 := PySem.F.called_set.init.bind (.ref s.heap.objs.size)
      repeat (any_goals (first | assumption | wp_step))
      refine codeAny_mono (codeAny_call_builtin (R := wants (fun x s2 => x = .none ∧ ∃ h' tk, s2 = { s with heap := h', toks := tk } ∧ TxtSet P w h' s.heap.objs.size zs zs.length ∧ (∀ b o, s.heap.get? b = some o → h'.get? b = some o)) E)
        PySem.F.called_set.init.plain PySem.F.entry_set_init (check_set_init_1 ty ?_)) fun r2 s2 h2 => ?_
      · obtain ⟨⟨c, dd, dt, sl⟩, gl, ec, n, ed⟩ := tup
        dsimp only at ec ed
        subst ec ed
        have gl' : (s.heap.push O).get? l = some { cls := .type "tuple", dict := dd, data := .seq its.toArray n, slots := sl } := Heap.get?_push_of_some _ gl
        have b1 := PySem.F.sub_tuple_set
        have b2 := PySem.F.sub_tuple_frozenset
        have b3 : (Value.type "tuple" == Value.type "dict") = false := by decide
        have tup1 : (s.heap.push O).IsTuple l its.toArray := ⟨_, gl', rfl, n, rfl⟩
        have sz : (s.heap.push O).objs.size = s.heap.objs.size + 1 := Heap.size_push ..
        have g2 : ((s.heap.push O).push { cls := .type "tuple_iterator", data := .fields #[.ref l, .int 0 0] }).get? s.heap.objs.size = some O := Heap.get?_push_of_some _ gO
        subst hO
        unfold Builtin.«set.__init__» noKeywords Builtin.Frozenset.updateFrom
        generalize hI : pyIter = J
        wp_walk
        subst hI
        refine wpAny_pyIter_tuple tup1 ?_
        refine wpAny_bind (wpAny_runValue ?_)
        have ltl : l < s.heap.objs.size := Heap.lt_size gl
        have calm3 : A.in1.in1.in1.handled = none := by simp [calm]
        refine txt_loop (zs := zs) (T := s.heap.objs.size) (Walks.tuple calm3 _ l (by rw [sz]; exact Nat.ne_of_lt (Nat.lt_succ_of_lt ltl)) its.toArray).toS ?_ lz nd (by rw [← lz]; exact few) (fun i v hv => txt_vals r i v (by simpa using hv)) (its.toArray.size - 0) 0 _ (by omega) (Nat.zero_le _)
          ⟨⟨_, Heap.get?_push_size _ rfl, rfl, rfl⟩, tup1.push _⟩ ?_ fun s3 mv last => ?_
        · rw [sz]
          simp only [List.mem_cons, List.not_mem_nil, or_false, not_or]
          exact ⟨Nat.ne_of_lt (Nat.lt_succ_self _), (Nat.ne_of_lt ltl).symm⟩
        · exact SetOf_congr ((PyProof.Rows.setObjOf_fresh (knd := PySem.strKind P w) b).setOf g2 (by unfold scanBound; omega)) (fun _ => rfl) rfl
        · obtain ⟨h', g', d', tk', os'⟩ := s3
          have q1 : g' = s.gens := mv.gens
          have q2 : d' = s.drawn := mv.drawn
          have q3 : os' = s.os := mv.os
          subst q1 q2 q3
          refine (wpAny_pure ?_ : wpAny _ _ _ _ _ _)
          refine (wpAny_pure ?_ : wpAny _ _ (ret Value.none) _ _ _)
          refine ⟨rfl, h', tk', rfl, by rw [lz]; exact last, fun c o e => ?_⟩
          have lc := Heap.lt_size e
          refine mv.heap c o ?_ (Heap.get?_push_of_some _ (Heap.get?_push_of_some _ e))
          rw [sz]
          simp only [List.mem_cons, List.not_mem_nil, or_false, not_or]
          exact ⟨Nat.ne_of_lt lc, Nat.ne_of_lt (Nat.lt_succ_of_lt lc)⟩
      · cases r2 with
        | error e => exact h2
        | ok fl2 =>
          cases fl2 with
          | ret x =>
            obtain ⟨rfl, h', tk, rfl, last, keep⟩ := h2
            repeat (any_goals (first | assumption | wp_step))
            exact fin _ _ last keep
          | _ => exact h2.elim
    | _ => exact hres.elim
end
def rLenSet (r : RV) : RV := fun env Q => r env fun x e => match x with
  | .tuple ts => ∃ zs, strsOf ts = some zs ∧ zs.Nodup ∧ zs.length < 64 ∧ Q (.int zs.length) e
  | _ => False
theorem qv_lenset {X : Cx} {a : Expr} {r : RV} {p p2 q pos : Pos} (hc : X.calm = true) (hm : X.mg "len" = none) (hm2 : X.mg "set" = none) (h : QV X a r) (hg : Gl X "len" := by rfl) (hg2 : Gl X "set" := by rfl) (na : starEach [a] X.env = (false, eval a X.env) :: starEach [] X.env := by rfl) :
    QV X (.Call (.Name "len" p) [.Call (.Name "set" p2) [a] [] q] [] pos) (rLenSet r) := by
  refine ⟨fun env Q Q' f z => h.mono _ _ _ (fun x e z => ?_) z, ⟨fun pins s σ H Q I z => ?_⟩⟩
  · split at z
    · obtain ⟨zs, a, b, c, z⟩ := z
      exact ⟨zs, a, b, c, f _ _ z⟩
    · exact z
  refine Call_ (ld_blt I hg hm boot_len (PyProof.Rows.callWith_builtin1 (PyProof.Rows.args_cons (Call_ (ld_blt I hg2 hm2 boot_set ?_)) rfl) rfl rfl))
  obtain ⟨env, G, F, rep, z⟩ := z
  refine PyProof.Rows.callWith_type1 (PyProof.Rows.args_cons (thn (h.run.run pins s σ H _ I (liftV_of (Q := fun v H1 => ∃ (l : Addr) (zs : List Str), v = .ref l ∧ SqT X.K H1 l (zs.map V.str) ∧ zs.Nodup ∧ zs.length < 64 ∧ Q (.int zs.length) H1) h.mono rep z fun x e v G1 H1 h1 s1 rep1 d1 => ?_)) fun v s1 ⟨x, H1, I1, r1, q1⟩ => PyProof.Rows.args_nil ?_) na) na rfl
  · split at h1
    · obtain ⟨zs, e1, e2, e3, h1⟩ := h1
      cases d1 with
      | tup g d =>
        have ev := rps_strsOf d e1
        subst ev
        exact ⟨_, zs, rfl, (tq_mono rep1.gh g).sq, e2, e3, h1 _ G1 H1 s1 rep1 (.int _)⟩
    · exact h1.elim
  · obtain ⟨l, zs, rfl, hq, e2, e3, q1⟩ := q1
    cases r1
    obtain ⟨its, rv, tup, _⟩ := I1.tuple hq
    refine set_txts (I1.ok.hd hc) tup rv e2 (by unfold scanBound; omega) fun h' tk last keep => PyProof.Rows.args_nil ?_
    obtain ⟨o, es, ep, t, ho, hex, hd, _, _, _, hf, hn⟩ := last
    have I2 : Inv X pins σ H1 { s1 with heap := h', toks := tk } := I1.kept keep
    exact call_len_set ho hex hd hf (by rw [hn]; omega) ⟨.int zs.length, H1, I2.tok _, ⟨_, by rw [hn]⟩, q1⟩
end Pf
set_option Elab.async false
set_option linter.all false
set_option maxRecDepth 100000
set_option maxHeartbeats 4000000
/-! Pf: dict(t), t a tuple of one pair whose key is a text; d.get(k, x). -/
namespace Pf
open PySem PySem.Spec PyProof.Rows L2

/-- a tuple whose object is known -/
theorem tupQ_plain {X : Cx} {pins : List (Addr × Obj)} {σ : L2.St} {H : Hp} {s : Shared} {a : Addr} {xs : List V} (I : L2.Inv X pins σ H s) (h : TupQ X.K H a xs) : ∃ its : List Value, Vals xs its ∧ PlainSeq "tuple" s.heap a its.toArray := by
  have look : ∃ ob, s.heap.get? a = some ob ∧ ob.dict = none := by
    rcases h with ⟨o, g, d⟩ | ⟨o, its, n, g, c, d, _⟩
    · exact ⟨o, (I.hok a _ g).1, d⟩
    · exact ⟨o, I.kIn a o g, d⟩
  obtain ⟨its, r, ⟨o, g, c, n, e⟩, _⟩ := I.tuple h.sq
  obtain ⟨ob, g2, d⟩ := look
  rw [g] at g2
  cases g2
  exact ⟨its, r, o, n, g, c, d, e⟩
theorem cr_dict1 {X : Cx} (calm : X.calm = true) : CallR X (.type "dict") (fun xs H Q => ∃ a b k v, xs = [.ref a] ∧ TupQ X.K H a [.ref b] ∧ SqT X.K H b [kV k, v] ∧ ∀ p, H p = none → Q (.ref p) (upd H p (.dK [(k, v)]))) := by
  intro pins s σ H xs us Q I r ⟨a, b, k, v, ex, ha, hb, q⟩
  subst ex
  obtain ⟨u, eu, rx⟩ := vals1 r
  subst eu
  cases rx
  obtain ⟨its, ri, pl⟩ := tupQ_plain I ha
  obtain ⟨u1, e1, r1⟩ := vals1 ri
  subst e1
  cases r1
  obtain ⟨jts, rj, tj, _⟩ := I.tuple hb
  obtain ⟨ku, vu, e2, rk, rv⟩ := vals2 rj
  subst e2
  have small : (1 : Nat) ≤ sizeLine := by rw [sizeLine_eq]; omega
  refine PySem.call_dict_pairs (knd := mixKind X.prog X.w) (kvs := [(k, vu)]) (PairArg.tuple a [Value.ref b].toArray (fun _ => b) [(ku, vu)]) (I.ok.hd calm) ⟨pl, rfl, fun j x y e => ?_⟩ ⟨rfl, fun j x y e => ?_⟩ small fun h' tk dd keep => ?_
  · cases j with
    | zero =>
      cases e
      exact ⟨rfl, .inl tj⟩
    | succ j => cases e
  · cases j with
    | zero =>
      cases e
      exact ⟨k, rfl, kV_is (P := X.prog) (w := X.w) rk⟩
    | succ j => cases e
  · have fresh : (s.heap.objs.size == sysModules) = false := beq_eq_false_iff_ne.mpr (Nat.ne_of_gt I.big)
    have keep' : ∀ c o, s.heap.get? c = some o → h'.get? c = some o := fun c o e => keep c o (fun m => nomatch m) e
    refine ⟨.ref s.heap.objs.size, upd H s.heap.objs.size (.dK [(k, v)]), I.laid (t' := tk) keep' (Nat.le_refl _) (show ObjOk X.prog X.w _ _ _ (.dK [(k, v)]) from ⟨small, fresh, [(k, vu)], .cons ⟨rfl, rv⟩ .nil, dd⟩), rfl, q _ (I.hok.fresh (Nat.le_refl _))⟩
def rDict (r : RP) : RE := fun env Q => r env fun a e => dref e a fun x => match x with
  | .tuple [.tuple [.str z, y]] => Q (.dct [(.inr z, y)]) e
  | _ => False
theorem qe_dict {X : Cx} {a : Expr} {r : RP} {p pos : Pos} (calm : X.calm = true) (hm : X.mg "dict" = none) (ha : QP X a r) (hg : Gl X "dict" := by rfl) (he : starEach [a] X.env = (false, eval a X.env) :: starEach [] X.env := by rfl) (hpl : (backTo pos (starEach [] X.env)).any (·.1) = false := by rfl) : QE X (.Call (.Name "dict" p) [a] [] pos) (rDict r) := by
  refine ⟨fun env Q Q' f q => ha.mono _ _ _ (fun x e z => dref.mono (fun y z => ?_) z) q, pe_imp (pe_callTy (cr_dict1 calm) hg hm (by decide +kernel) (pa_cons ha.run pa_nil he) (by decide) (by decide) he hpl) ?_⟩
  · split at z
    · exact f _ _ z
    · exact z
  intro σ H Q ⟨env, G, F, rep, q⟩
  refine liftP_of ha.mono rep q fun x e v G1 H1 h1 s1 rep1 d1 => ?_
  obtain ⟨y, p1, h2⟩ := dref_pk rep1 d1 h1
  split at h2
  · rename_i z y
    obtain ⟨a, vs, rfl, g, d⟩ := p1.tup
    cases d with
    | cons d dn =>
      cases dn
      cases d with
      | tup g2 d2 =>
        cases d2 with
        | cons dz d2 =>
          cases dz
          cases d2 with
          | cons dy dn =>
            cases dn
            rename_i b u
            exact ⟨a, b, .inr z, u, rfl, tq_mono rep1.gh g, (tq_mono rep1.gh g2).sq, fun l hl => h2 _ G1 _ s1 (rep1.newO hl ⟨l, _, rfl, rfl, upd_same, .cons dy .nil⟩)⟩
  · exact h2.elim
def findD (kvs : List (Key × D)) (k : Key) : Option D := (kvs.find? fun kv => decide (kv.1 = k)).map (·.2)
theorem dkv_find {K : Fg} {G : Hp} (k : Key) : ∀ {kvs : List (Key × D)} {vs : List (Key × V)}, DpKV K G vs kvs → (valV vs k = none ∧ findD kvs k = none) ∨ ∃ v x, valV vs k = some v ∧ findD kvs k = some x ∧ Rp K G v x
  | _, _, .nil => .inl ⟨rfl, rfl⟩
  | _, _, .cons (k := k') h t => by
    unfold valV findD
    rw [List.find?_cons, List.find?_cons]
    by_cases e : k' = k
    · exact .inr ⟨_, _, by simp [e], by simp [e], h⟩
    · simp only [e, decide_false]
      exact dkv_find k t
def rGet (k : Nat) (ri rd : RV) : RV := fun env Q => ∃ kvs, env[k]? = some (some (.dct kvs)) ∧ ri env fun j e1 => rd e1 fun y e => match j with
  | .str z => e[k]? = some (some (.dct kvs)) ∧ Q ((findD kvs (.inr z)).getD y) e
  | _ => False
theorem qv_get {X : Cx} (k : Nat) {x : Str} {a b : Expr} {ri rd : RV} {px apos cpos : Pos} (hu : X.A.units + 64 < cLine) (hi : QV X a ri) (hd0 : QV X b rd) (hN : X.N[k]? = some x := by rfl) (hv : Vis X.env.scope x := by first | exact Or.inl rfl | exact Or.inr (Or.inl rfl) | exact Or.inr (Or.inr rfl))
    (hd : (x == ("__debug__" : Str)) = false := by decide) (hcd : (x == ("__classdict__" : Str)) = false := by decide) (hbase : attributeBase (.Name x px) "get" X.env (eval (.Name x px) X.env) = eval (.Name x px) X.env := by rfl)
    (hfew : ((backTo cpos (starEach [a, b] X.env)).all (fun x => !x.1) && (backToKw cpos (keywordEach [] X.env)).all (fun x => x.1.isSome) && decide (([a, b] : List Expr).length + ([] : List Keyword).length + (if ([] : List Keyword).isEmpty then 0 else 1) < 30)) = true := by rfl)
    (hline : (apos.endLine == cpos.line) = true := by rfl) (ht : backTo cpos (starEach [a, b] X.env) = [(false, eval a X.env), (false, eval b X.env)] := by rfl) : QV X (.Call (.Attribute (.Name x px) "get" apos) [a, b] [] cpos) (rGet k ri rd) := by
  refine ⟨fun env Q Q' f ⟨kvs, a, q⟩ => ⟨kvs, a, hi.mono _ _ _ (fun j e z => hd0.mono _ _ _ (fun y e z => ?_) z) q⟩, pe_imp (pe_dget2 (by omega) (pe_var hN hv hd hcd) hi.run hd0.run ⟨hbase, hfew, hline, ht⟩) ?_⟩
  · split at z
    · exact ⟨z.1, f _ _ z.2⟩
    · exact z
  intro σ H Q ⟨env, G, F, rep, kvs, e0, q⟩
  obtain ⟨v0, fp0, g0, p, vs, e1, e2, hp, _⟩ := rep.get e0
  subst e1
  refine ⟨.ref p, g0, p, rfl, .inl ⟨vs, .inl hp⟩, ?_⟩
  refine liftV_of hi.mono rep q fun j e1 u G1 H1 h1 s1 rep1 d1 => ?_
  refine liftV_of hd0.mono rep1 h1 fun y e2 w G2 H2 h2 s2 rep2 d2 => ?_
  split at h2
  · rename_i z
    obtain ⟨a2, h3⟩ := h2
    obtain ⟨v1, fp1, g1, p1, vs1, e3, e4, hp1, dk⟩ := rep2.get a2
    rw [g0] at g1
    cases g1
    cases e3
    cases d1
    rcases dkv_find (.inr z) dk with ⟨f1, f2⟩ | ⟨v, x, f1, f2, f3⟩
    · refine ⟨valV vs1 (.inr z), .inl ⟨vs1, .inr z, .inl hp1, rfl, rfl⟩, ?_⟩
      rw [f2] at h3
      rw [f1]
      exact h3 _ G2 H2 (s1.trans s2) rep2 d2
    · refine ⟨valV vs1 (.inr z), .inl ⟨vs1, .inr z, .inl hp1, rfl, rfl⟩, ?_⟩
      rw [f2] at h3
      rw [f1]
      exact h3 _ G2 H2 (s1.trans s2) rep2 f3
  · exact h2.elim
end Pf
set_option Elab.async false
set_option linter.all false
set_option maxRecDepth 100000
set_option maxHeartbeats 4000000
set_option exponentiation.threshold 10000
/-! Pf: fractions as data. -/
namespace Pf
open PySem PySem.Spec PyProof.Rows L2
/-- a fraction as the program writes it -/
def qD (r : Rat) : D := .tuple [.int r.num, .int (r.den : Int)]
/-- both parts have less than k bits -/
def Fit (k : Nat) (r : Rat) : Prop := r.num.natAbs < 2 ^ k ∧ r.den < 2 ^ k
theorem Fit.mono {k l : Nat} {r : Rat} (h : Fit k r) (hl : k ≤ l) : Fit l r := ⟨Nat.lt_of_lt_of_le h.1 (Nat.pow_le_pow_right (by decide) hl), Nat.lt_of_lt_of_le h.2 (Nat.pow_le_pow_right (by decide) hl)⟩
theorem gcd_sign (a b : Int) (hb : b ≠ 0) : a.fdiv (if b < 0 then -((Nat.gcd a.natAbs b.natAbs : Nat) : Int) else ((Nat.gcd a.natAbs b.natAbs : Nat) : Int)) = (Rat.divInt a b).num ∧
    b.fdiv (if b < 0 then -((Nat.gcd a.natAbs b.natAbs : Nat) : Int) else ((Nat.gcd a.natAbs b.natAbs : Nat) : Int)) = ((Rat.divInt a b).den : Int) := by
  have hg : Nat.gcd a.natAbs b.natAbs = b.gcd a := by
    rw [Nat.gcd_comm]
    rfl
  have da : ((b.gcd a : Nat) : Int) ∣ a := Int.gcd_dvd_right ..
  have db : ((b.gcd a : Nat) : Int) ∣ b := Int.gcd_dvd_left ..
  rw [hg, Rat.num_divInt, Rat.den_divInt, if_neg hb]
  by_cases h : b < 0
  · rw [if_pos h, Int.fdiv_eq_ediv_of_dvd (Int.neg_dvd.mpr da), Int.fdiv_eq_ediv_of_dvd (Int.neg_dvd.mpr db), Int.sign_eq_neg_one_of_neg h, Int.ediv_neg, Int.ediv_neg]
    refine ⟨?_, ?_⟩
    · rw [Int.neg_one_mul, Int.neg_ediv_of_dvd da]
    · rw [Int.natCast_ediv, show ((b.natAbs : Nat) : Int) = -b by omega, Int.neg_ediv_of_dvd db]
  · rw [if_neg h, Int.fdiv_eq_ediv_of_dvd da, Int.fdiv_eq_ediv_of_dvd db, Int.sign_eq_one_of_pos (by omega)]
    refine ⟨by rw [Int.one_mul], ?_⟩
    rw [Int.natCast_ediv, show ((b.natAbs : Nat) : Int) = b by omega]
theorem qD_divInt (a b : Int) (hb : b ≠ 0) : qD (Rat.divInt a b) = .tuple [.int (a.fdiv (if b < 0 then -((Nat.gcd a.natAbs b.natAbs : Nat) : Int) else ((Nat.gcd a.natAbs b.natAbs : Nat) : Int))),
    .int (b.fdiv (if b < 0 then -((Nat.gcd a.natAbs b.natAbs : Nat) : Int) else ((Nat.gcd a.natAbs b.natAbs : Nat) : Int)))] := by
  unfold qD
  rw [(gcd_sign a b hb).1, (gcd_sign a b hb).2]
theorem gcd_ok (a b : Int) (hb : b ≠ 0) (h : b.natAbs < 2 ^ 9000) : CDivA 0 (if b < 0 then -((Nat.gcd a.natAbs b.natAbs : Nat) : Int) else ((Nat.gcd a.natAbs b.natAbs : Nat) : Int)) := by
  have hp : 0 < Nat.gcd a.natAbs b.natAbs := Nat.gcd_pos_of_pos_right _ (by omega)
  have hl : Nat.gcd a.natAbs b.natAbs < 2 ^ 9000 := Nat.lt_of_le_of_lt (Nat.gcd_le_right _ (by omega)) h
  generalize Nat.gcd a.natAbs b.natAbs = g at hp hl
  have e : (if b < 0 then -(g : Int) else (g : Int)).natAbs = g := by
    split <;> omega
  refine ⟨fun z => ?_, ?_⟩
  · rw [z] at e
    change 0 = g at e
    omega
  · rw [e]
    exact log2_lt_of_lt hl (by decide)
theorem bits_of {a : Int} {k : Nat} (h : a.natAbs < 2 ^ k) : Builtin.Int.intBits a ≤ k := by
  unfold Builtin.Int.intBits
  split
  · exact Nat.zero_le _
  · rename_i n
    have ha : a ≠ 0 := fun z => by simp [z] at n
    exact (Nat.log2_lt (by omega)).mpr h
theorem mul_fit {a b : Int} {k l : Nat} (ha : a.natAbs < 2 ^ k) (hb : b.natAbs < 2 ^ l) (hk : k ≤ 1000000) (hl : l ≤ 1000000) : IntMulOk a b :=
  IntMulOk.of_bits (Nat.le_trans (bits_of ha) (Nat.le_trans hk (by decide))) (Nat.le_trans (bits_of hb) (Nat.le_trans hl (by decide)))
theorem mul_lt {a b : Nat} {k l : Nat} (ha : a < 2 ^ k) (hb : b < 2 ^ l) : a * b < 2 ^ (k + l) := by
  rw [Nat.pow_add]
  exact Nat.mul_lt_mul'' ha hb
theorem den_mul_lt {r s : Rat} {k l : Nat} (h : r.den < 2 ^ k) (h' : s.den < 2 ^ l) (hk : k + l ≤ 9000) : ((r.den : Int) * (s.den : Int)).natAbs < 2 ^ 9000 := by
  rw [Int.natAbs_mul]
  exact Nat.lt_of_lt_of_le (mul_lt h h') (Nat.pow_le_pow_right (by decide) hk)
theorem den_ne (r s : Rat) : (r.den : Int) * (s.den : Int) ≠ 0 := Int.mul_ne_zero (by have := r.den_nz; omega) (by have := s.den_nz; omega)
theorem den0 (r : Rat) : (r.den : Int) ≠ 0 := by have := r.den_nz; omega
theorem add_as (r s : Rat) : Rat.divInt (r.num * s.den + s.num * r.den) (r.den * s.den) = r + s := by
  have := Rat.divInt_add_divInt r.num s.num (den0 r) (den0 s)
  rw [Rat.num_divInt_den, Rat.num_divInt_den] at this
  exact this.symm
theorem sub_as (r s : Rat) : Rat.divInt (r.num * s.den - s.num * r.den) (r.den * s.den) = r - s := by
  have := Rat.divInt_sub_divInt r.num s.num (den0 r) (den0 s)
  rw [Rat.num_divInt_den, Rat.num_divInt_den] at this
  exact this.symm
theorem mul_as (r s : Rat) : Rat.divInt (r.num * s.num) (r.den * s.den) = r * s := by
  have := Rat.divInt_mul_divInt r.num s.num (d₁ := r.den) (d₂ := s.den)
  rw [Rat.num_divInt_den, Rat.num_divInt_den] at this
  exact this.symm
theorem inv_as (s : Rat) : Rat.divInt (s.den : Int) s.num = s⁻¹ := (Rat.inv_def s).symm
theorem div_as (r s : Rat) : Rat.divInt (r.num * s.den) (r.den * s.num) = r / s := by
  have := Rat.divInt_mul_divInt r.num (s.den : Int) (d₁ := r.den) (d₂ := s.num)
  rw [Rat.num_divInt_den, inv_as] at this
  rw [Rat.div_def]
  exact this.symm
theorem int_as (r : Rat) (n : Int) : Rat.divInt (n * r.num) r.den = (n : Rat) * r := by
  have := mul_as (n : Rat) r
  rw [show ((n : Rat)).num = n from rfl, show ((n : Rat)).den = 1 from rfl] at this
  rw [← this]
  simp
theorem fit_divInt {a b : Int} {k : Nat} (hb : b ≠ 0) (h1 : a.natAbs < 2 ^ k) (h2 : b.natAbs < 2 ^ k) : Fit k (Rat.divInt a b) := by
  have hg : 0 < b.gcd a := Nat.pos_of_ne_zero fun z => hb (Int.gcd_eq_zero_iff.mp z).1
  refine ⟨?_, ?_⟩
  · rw [Rat.num_divInt, Int.natAbs_ediv_of_dvd (Int.dvd_trans (Int.gcd_dvd_right ..) (Int.dvd_mul_left ..)), Int.natAbs_mul, Int.natAbs_sign_of_ne_zero hb, Nat.one_mul]
    exact Nat.lt_of_le_of_lt (Nat.div_le_self _ _) h1
  · rw [Rat.den_divInt, if_neg hb]
    exact Nat.lt_of_le_of_lt (Nat.div_le_self _ _) h2
theorem qD_inj {r s : Rat} (h : qD r = qD s) : r = s := by
  unfold qD at h
  injection h with h
  injection h with h1 h2
  injection h1 with h1
  injection h2 with h2 _
  injection h2 with h2
  exact Rat.ext h1 (by omega)
end Pf
set_option Elab.async false
set_option linter.all false
set_option maxRecDepth 100000
set_option maxHeartbeats 1000000
/-! Pf: x += e; x[i] += e; min; texts that are repeated. -/
namespace Pf
open PySem PySem.Spec PyProof.Rows L2

/-! ### x += e, whole numbers -/
def rAug (i : Nat) (f : Int → Int → Int) (ra : RV) : RS := fun E env => match env[i]? with
  | some (some (.d (.int m))) => ra env fun y e => match y with
    | .int n => e[i]? = some (some (.d (.int m))) ∧ E.nx (e.set i (some (.d (.int (f m n)))))
    | _ => False
  | _ => False
theorem qs_aug {X : Cx} {kp : List Nat} {pos pos' : Pos} {op : Operator} {f : Int → Int → Int} (ho : PIp X op (ipI f)) (i : Nat) {x : Str} {a : Expr} {ra : RV} (hN : X.N.Nodup) (h : QV X a ra) (hk : i ∉ kp := by decide) (hi : X.N[i]? = some x := by rfl) (hx : Loc X.env.scope x := by first | exact .inl rfl | exact .inr rfl)
    (hf : X.fn x = true ∨ X.env.scope.names.lookup x = some .local := by first | exact .inl rfl | exact .inr rfl | assumption) : QS X kp (.AugAssign (.Name x pos') op a pos) (rAug i f ra) := by
  refine ⟨fun A B env l q => ?_, ps_imp (ps_aug (i := i) hN hi hx h.run ho hf) ?_⟩
  · unfold rAug at *
    split at q
    · exact h.mono _ _ _ (fun y e z => by
        split at z
        · exact ⟨z.1, l.1 _ z.2⟩
        · exact z) q
    · exact q
  intro E σ H ⟨env, G, F, rep, q⟩
  unfold rAug at q
  split at q
  · rename_i m e0
    obtain ⟨v, ev, dv⟩ := rep.getD e0
    cases dv
    refine ⟨.int m, ev, ?_⟩
    refine liftV_of h.mono rep q fun y e u G' H' z s r d => ?_
    split at z
    · rename_i n
      cases d
      refine ⟨m, n, rfl, rfl, ?_⟩
      exact z.2 _ G' H' s (keepS_set hk) ((RepV.of r (.int _)).put i)
    · exact z.elim
  · exact q.elim
theorem ip_sub' {X : Cx} : PIp X .Sub (ipI fun i j => i - j) := ip_sub

/-! ### x[i] += e -/
theorem get_list {X : Cx} : PGet X (fun o i H Q => ∃ p xs j x, o = .ref p ∧ i = .int j ∧ 0 ≤ j ∧ H p = some (.lst xs) ∧ xs[j.toNat]? = some x ∧ Q x H) := by
  intro pins s σ H o i ov iv Q I ro ri ⟨p, xs, j, x, eo, ei, hj, hp, hx, q⟩
  subst eo ei
  cases ro
  obtain ⟨t, rfl⟩ := ri
  obtain ⟨its, r, pl, hz⟩ := I.list (.inl (.inl hp))
  obtain ⟨w, ew, rw'⟩ := r.get hx
  have hl := r.length
  have hn := line63
  have hlt : j.toNat < xs.length := (List.getElem?_eq_some_iff.mp hx).1
  exact wpAny_getItem_list pl.isList hj (by omega) (by simpa using ew) ⟨x, H, I, rw', q⟩
def rAugIx (k : Nat) (f : Int → Int → Int) (ri ra : RV) : RS := fun E env => ownAt env k fun _ => ri env fun j e1 => match j with
  | .int i => ownAt e1 k fun xs => ∃ m, 0 ≤ i ∧ xs[i.toNat]? = some (.int m) ∧ ra e1 fun y e2 => match y with
    | .int b => ownAt e2 k fun ys => ∃ n, ixN ys.length i = some n ∧ E.nx (e2.set k (some (.own (ys.set n (.int (f m b))))))
    | _ => False
  | _ => False
theorem qs_augIx {X : Cx} {kp : List Nat} {pos px tpos : Pos} {op : Operator} {f : Int → Int → Int} (ho : PIp X op (ipI f)) (k : Nat) {x : Str} {i a : Expr} {ri ra : RV} (hi : QV X i ri) (he : QV X a ra) (hN : X.N[k]? = some x := by rfl) (hv : Vis X.env.scope x := by first | exact Or.inl rfl | exact Or.inr (Or.inl rfl) | exact Or.inr (Or.inr rfl))
    (hd : (x == ("__debug__" : Str)) = false := by decide) (hcd : (x == ("__classdict__" : Str)) = false := by decide)
    (ha : ∀ ov iv new, augStore i ov iv new = (do holding [new, ov, iv] (setItem ov iv new); release [new, ov, iv] []; pure .next) := by intros; rfl) : QS X kp (.AugAssign (.Subscript (.Name x px) i tpos) op a pos) (rAugIx k f ri ra) := by
  refine ⟨fun A B env l q => q.mono fun xs z => hi.mono _ _ _ (fun j e z => ?_) z, ps_imp (ps_augS (pe_var hN hv hd hcd) hi.run get_list he.run ho set_list ha) ?_⟩
  · split at z
    · exact z.mono fun xs ⟨m, h0, h1, h2⟩ => ⟨m, h0, h1, he.mono _ _ _ (fun y e z => by
        split at z
        · exact z.mono fun ys ⟨n, a, b⟩ => ⟨n, a, l.1 _ b⟩
        · exact z) h2⟩
    · exact z
  intro E σ H ⟨env, G, F, rep, q⟩
  obtain ⟨xs, g1, h1⟩ := q.get
  obtain ⟨p, vs, g2, g3, g4, _⟩ := rep.mut g1
  refine ⟨.ref p, g2, ?_⟩
  refine liftV_of hi.mono rep h1 fun j e1 u G1 H1 z s1 rep1 d1 => ?_
  split at z
  · rename_i jj
    cases d1
    obtain ⟨ys, g5, m, h0, hx, h2⟩ := z.get
    obtain ⟨p', ws, g7, g8, g9, g10⟩ := rep1.mut g5
    rw [g2] at g7
    cases g7
    obtain ⟨w, ew, dw⟩ := rps_get g9 hx
    cases dw
    refine ⟨p, ws, _, .int m, rfl, rfl, h0, g8, ew, ?_⟩
    refine liftV_of he.mono rep1 h2 fun y e2 u2 G2 H2 z2 s2 rep2 d2 => ?_
    split at z2
    · rename_i b
      cases d2
      obtain ⟨zs, g11, n, hn, h3⟩ := z2.get
      obtain ⟨p2, ws2, g12, g13, g14, g15⟩ := rep2.mut g11
      rw [g2] at g12
      cases g12
      refine ⟨m, b, rfl, rfl, ?_⟩
      refine ⟨p, ws2, _, n, rfl, rfl, g13, by rw [rps_len g14]; exact hn, ?_⟩
      exact h3 σ G2 _ (s1.trans s2) keepS_refl (g15 _ _ (rps_set (.int _) n g14))
    · exact z2.elim
  · exact z.elim
end Pf
set_option Elab.async false
set_option linter.all false
set_option maxRecDepth 100000
set_option maxHeartbeats 1000000
/-! Pf: dicts of one's own whose values are data: {k: v}, d[k] = v, k in d, d[k], sorted(d). -/
namespace Pf
open PySem PySem.Spec PyProof.Rows L2

def putD (kvs : List (Key × D)) (k : Key) (x : D) : List (Key × D) := if (kvs.any fun kv => decide (kv.1 = k)) = true then kvs.map (fun kv => if kv.1 = k then (kv.1, x) else kv) else kvs ++ [(k, x)]
theorem dkv_any {K : Fg} {G : Hp} (k : Key) : ∀ {kvs : List (Key × D)} {vs : List (Key × V)}, DpKV K G vs kvs → (vs.any fun kv => decide (kv.1 = k)) = (kvs.any fun kv => decide (kv.1 = k))
  | _, _, .nil => rfl
  | _, _, .cons h t => by rw [List.any_cons, List.any_cons, dkv_any k t]
theorem dkv_map {K : Fg} {G : Hp} (k : Key) {v : V} {x : D} (hx : Rp K G v x) : ∀ {kvs : List (Key × D)} {vs : List (Key × V)}, DpKV K G vs kvs → DpKV K G (vs.map fun kv => if kv.1 = k then (kv.1, v) else kv) (kvs.map fun kv => if kv.1 = k then (kv.1, x) else kv)
  | _, _, .nil => .nil
  | _, _, .cons (k := k') h t => by
    rw [List.map_cons, List.map_cons]
    dsimp only
    by_cases e : k' = k
    · rw [if_pos e, if_pos e]
      exact .cons hx (dkv_map k hx t)
    · rw [if_neg e, if_neg e]
      exact .cons h (dkv_map k hx t)
theorem dkv_snoc {K : Fg} {G : Hp} {k : Key} {v : V} {x : D} (hx : Rp K G v x) : ∀ {kvs : List (Key × D)} {vs : List (Key × V)}, DpKV K G vs kvs → DpKV K G (vs ++ [(k, v)]) (kvs ++ [(k, x)])
  | _, _, .nil => .cons hx .nil
  | _, _, .cons h t => .cons h (dkv_snoc hx t)
theorem dkv_put {K : Fg} {G : Hp} {k : Key} {v : V} {x : D} (hx : Rp K G v x) {kvs : List (Key × D)} {vs : List (Key × V)} (h : DpKV K G vs kvs) : DpKV K G (putK vs k v) (putD kvs k x) := by
  unfold putK putD
  rw [dkv_any k h]
  split
  · exact dkv_map k hx h
  · exact dkv_snoc hx h
theorem dkv_len {K : Fg} {G : Hp} : ∀ {kvs : List (Key × D)} {vs : List (Key × V)}, DpKV K G vs kvs → vs.length = kvs.length
  | _, _, .nil => rfl
  | _, _, .cons h t => by rw [List.length_cons, List.length_cons, dkv_len t]
theorem dkv_keys {K : Fg} {G : Hp} : ∀ {kvs : List (Key × D)} {vs : List (Key × V)}, DpKV K G vs kvs → vs.map (·.1) = kvs.map (·.1)
  | _, _, .nil => rfl
  | _, _, .cons h t => by rw [List.map_cons, List.map_cons, dkv_keys t]
section
variable {K : Fg} {G F H : Hp} {σ : L2.St} {env : Env}
theorem Rep.getK {kvs : List (Key × D)} {k : Nat} (r : Rep K G F H σ env) (h : env[k]? = some (some (.dct kvs))) : ∃ p vs, σ[k]? = some (some (.ref p)) ∧ H p = some (.dK vs) ∧ DpKV K G vs kvs := by
  obtain ⟨v, fp, e, p, vs, rfl, rfl, h1, h2⟩ := r.get h
  exact ⟨p, vs, e, h1, h2⟩
theorem Rep.mutK {kvs : List (Key × D)} {k : Nat} (r : Rep K G F H σ env) (h : env[k]? = some (some (.dct kvs))) : ∃ p vs, σ[k]? = some (some (.ref p)) ∧ H p = some (.dK vs) ∧ DpKV K G vs kvs ∧
    ∀ vs' kvs', DpKV K G vs' kvs' → Rep K G F (upd H p (.dK vs')) σ (env.set k (some (.dct kvs'))) := by
  obtain ⟨fp, s, w⟩ := r
  obtain ⟨fa, f1, fb, x, e1, e2, ⟨v, rfl, p, vs, rfl, rfl, hp, hd⟩, g⟩ := s.split h
  subst e1
  refine ⟨p, vs, e2, hp, hd, fun vs' xs' hd' => ?_⟩
  have mp : p ∈ fa ++ ([p] ++ fb) := by simp
  have hG : G p = none := w.pg p mp
  have hF : F p = none := w.pf p mp
  have nd := List.nodup_append.mp w.nd
  have nd2 := nd.2.1
  rw [List.singleton_append, List.nodup_cons] at nd2
  have hn : ∀ a ∈ fa ++ fb, a ≠ p := fun a m e => by
    subst e
    rcases List.mem_append.mp m with m | m
    · exact nd.2.2 a m a (by simp) rfl
    · exact nd2.1 m
  have s2 := g G (upd H p (.dK vs')) (some (.ref p)) (some (.dct xs')) [p] idS (fun a m => upd_ne (hn a m)) ⟨_, rfl, p, vs', rfl, rfl, upd_same, hd'⟩
  rw [set_self e2] at s2
  refine ⟨_, s2, fun a o e => ?_, fun a o e => ?_, w.gf, w.nd, w.pg, w.pf⟩
  · rw [upd_ne (fun z => by rw [z, hG] at e; cases e)]
    exact w.gh a o e
  · rw [upd_ne (fun z => by rw [z, hF] at e; cases e)]
    exact w.fh a o e
theorem Rep.ownK {D' : Addr} {vs : List (Key × V)} (r : Rep K G (upd F D' (.dK vs)) H σ env) (hF : F D' = none) {kvs : List (Key × PyData)} (d : DpKV K G vs kvs) : RepV K G F H σ env (.ref D') (.dct kvs) := by
  obtain ⟨fp, s, w⟩ := r
  have hD : ∀ a ∈ fp, a ≠ D' := fun a m z => by
    have := w.pf a m
    rw [z, upd_same] at this
    cases this
  have gD : ∀ a, G a ≠ none → a ≠ D' := fun a h z => by
    have := w.gf a h
    rw [z, upd_same] at this
    cases this
  refine ⟨fp, [D'], s, ⟨D', vs, rfl, rfl, w.fh D' _ upd_same, d⟩, w.gh, fun a o h => w.fh a o ?_, fun a h => ?_, ?_, fun a m => ?_, fun a m => ?_⟩
  · rw [upd_ne (fun z => by rw [z, hF] at h; cases h)]
    exact h
  · have := w.gf a h
    rw [upd_ne (gD a h)] at this
    exact this
  · rw [List.singleton_append, List.nodup_cons]
    exact ⟨fun m => hD D' m rfl, w.nd⟩
  · rcases List.mem_append.mp m with m | m
    · rw [List.mem_singleton.mp m]
      exact none_of fun o h => gD D' (by rw [h]; exact fun z => nomatch z) rfl
    · exact w.pg a m
  · rcases List.mem_append.mp m with m | m
    · rw [List.mem_singleton.mp m]
      exact hF
    · have := w.pf a m
      rw [upd_ne (hD a m)] at this
      exact this
end
/-- the dict in slot k -/
def dctAt (e : Env) (k : Nat) (c : List (Key × D) → Prop) : Prop := match e[k]? with
  | some (some (.dct kvs)) => c kvs
  | _ => False
theorem dctAt.mono {e : Env} {k : Nat} {c c' : List (Key × D) → Prop} (f : ∀ xs, c xs → c' xs) (h : dctAt e k c) : dctAt e k c' := by
  unfold dctAt at *
  split at h
  · exact f _ h
  · exact h.elim
theorem dctAt.get {e : Env} {k : Nat} {c : List (Key × D) → Prop} (h : dctAt e k c) : ∃ xs, e[k]? = some (some (.dct xs)) ∧ c xs := by
  unfold dctAt at h
  split at h
  · rename_i xs q
    exact ⟨xs, q, h⟩
  · exact h.elim
section
variable {X : Cx}
/-! ### {k: v} -/
def rDisp (rk rv : RV) : RE := fun env Q => rk env fun x e1 => rv e1 fun y e2 => match x with
  | .int i => Q (.dct [(.inl i, y)]) e2
  | _ => False
theorem qe_disp {k v : Expr} {rk rv : RV} {pos : Pos} (hk : QV X k rk) (hv : QV X v rv) : QE X (.Dict [some k] [v] pos) (rDisp rk rv) := by
  refine ⟨fun env Q Q' f q => hk.mono _ _ _ (fun x e z => hv.mono _ _ _ (fun y e z => ?_) z) q, pe_imp (pe_disp (pps_cons hk.run hv.run pps_nil) (by rfl) (by rfl) (fun z => by cases z) (by show 1 ≤ 15; decide)) ?_⟩
  · split at z
    · exact f _ _ z
    · exact z
  intro σ H Q ⟨env, G, F, rep, q⟩
  intro p hp
  have hF : F p = none := let ⟨_, _, w⟩ := rep; same_none w.fh hp
  refine liftV_of hk.mono (rep.hold (o := .dK []) hp) q fun x e1 u G1 H1 h1 s1 rep1 d1 => ?_
  refine liftV_of hv.mono rep1 h1 fun y e2 w G2 H2 h2 s2 rep2 d2 => ?_
  have hw : H2 p = some (.dK []) := let ⟨_, _, w⟩ := rep2; w.fh p _ upd_same
  split at h2
  · rename_i i
    cases d1
    refine ⟨hw, [(.inl i, w)], rfl, (by show 1 ≤ 15; decide), ?_⟩
    have r3 : Rep X.K G2 (upd F p (.dK [(.inl i, w)])) (upd H2 p (.dK [(.inl i, w)])) σ e2 := rep2.frame
    exact h2 _ G2 _ (s1.trans s2) (r3.ownK hF (.cons d2 .nil))
  · exact h2.elim
/-! ### d[k] = v -/
def rDPut (k : Nat) (re ri : RV) : RS := fun E env => re env fun y e1 => dctAt e1 k fun _ => ri e1 fun j e2 => match j with
  | .int i => dctAt e2 k fun kvs => kvs.length < sizeLine ∧ E.nx (e2.set k (some (.dct (putD kvs (.inl i) y))))
  | _ => False
theorem qs_dput {kp : List Nat} {pos : Pos} (hu : X.A.units + 64 < cLine) (k : Nat) {x : Str} {a i : Expr} {re ri : RV} {px tp : Pos} (he : QV X a re) (hi : QV X i ri) (hN : X.N[k]? = some x := by rfl) (hv : Vis X.env.scope x := by first | exact Or.inl rfl | exact Or.inr (Or.inl rfl) | exact Or.inr (Or.inr rfl))
    (hd : (x == ("__debug__" : Str)) = false := by decide) (hcd : (x == ("__classdict__" : Str)) = false := by decide) (hs : swapsWith a (some (.Subscript (.Name x px) i tp)) pos.line X.env = pure false := by rfl) : QS X kp (.Assign [.Subscript (.Name x px) i tp] a pos) (rDPut k re ri) := by
  refine ⟨fun A B env l q => he.mono _ _ _ (fun y e z => z.mono fun xs z => hi.mono _ _ _ (fun j e z => by
    split at z
    · exact z.mono fun xs z => ⟨z.1, l.1 _ z.2⟩
    · exact z) z) q, ps_imp (ps_dput (by omega) (pe_var hN hv hd hcd) hi.run he.run hs) ?_⟩
  intro E σ H ⟨env, G, F, rep, q⟩
  refine liftV_of he.mono rep q fun y e1 v G1 H1 h1 s1 rep1 d1 => ?_
  obtain ⟨xs, g1, h1⟩ := h1.get
  obtain ⟨p, vs, g2, g3, g4, _⟩ := rep1.mutK g1
  refine ⟨.ref p, g2, ?_⟩
  refine liftV_of hi.mono rep1 h1 fun j e2 u G2 H2 h2 s2 rep2 d2 => ?_
  split at h2
  · rename_i i
    cases d2
    obtain ⟨kvs, g5, hl, h3⟩ := h2.get
    obtain ⟨p', ws, g7, g8, g9, g10⟩ := rep2.mutK g5
    rw [g2] at g7
    cases g7
    refine ⟨p, _, rfl, DPut.k (k := .inl i) g8 (by rw [dkv_len g9]; exact hl), ?_⟩
    exact h3 σ G2 _ (s1.trans s2) keepS_refl (g10 _ _ (dkv_put (rp_mono s2 y d1) g9))
  · exact h2.elim
/-! ### k in d, k not in d -/
def rDIn (neg : Bool) (k : Nat) (ra : RV) : RT := fun env Q => ra env fun x e => match x with
  | .int i => dctAt e k fun kvs => Q (if neg then !(findD kvs (.inl i)).isSome else (findD kvs (.inl i)).isSome) e
  | _ => False
theorem rDIn_mono {neg : Bool} {k : Nat} {ra : RV} (m : MonoK ra) : MonoK (rDIn neg k ra) := fun env Q Q' f q => m _ _ _ (fun x e z => by
  split at z
  · exact z.mono fun xs z => f _ _ z
  · exact z) q
theorem dkv_some {K : Fg} {G : Hp} {k : Key} {kvs : List (Key × D)} {vs : List (Key × V)} (h : DpKV K G vs kvs) : (valV vs k).isSome = (findD kvs k).isSome := by
  rcases dkv_find k h with ⟨a, b⟩ | ⟨v, x, a, b, _⟩
  · rw [a, b]; rfl
  · rw [a, b]; rfl
theorem tDIn_of {K : Fg} {k : Nat} {ra : RV} {neg : Bool} (m : MonoK ra) {σ : L2.St} {H : Hp} {Q0 : Bool → Hp → Prop} (h : liftT K (rDIn neg k ra) σ H Q0) :
    liftV K ra σ H fun y H1 => ∃ p vs o, σ[k]? = some (some (.ref p)) ∧ H1 p = some (.dK vs) ∧ DGet H1 p y o ∧ Q0 (if neg then !o.isSome else o.isSome) H1 := by
  obtain ⟨env, G, F, rep, q⟩ := h
  refine liftV_of m rep q fun x e1 u G1 H1 h1 s1 rep1 d1 => ?_
  split at h1
  · rename_i i
    cases d1
    obtain ⟨kvs, g1, h2⟩ := h1.get
    obtain ⟨p, vs, g2, g3, g4⟩ := rep1.getK g1
    refine ⟨p, vs, valV vs (.inl i), g2, g3, DGet.k (k := .inl i) g3, ?_⟩
    rw [dkv_some g4]
    exact h2 G1 H1 s1 rep1
  · exact h1.elim
theorem liftV_imp {K : Fg} {r : RV} {σ : L2.St} {H : Hp} {Q Q' : VK} (m : MonoK r) (h : liftV K r σ H Q) (f : ∀ v H', Q v H' → Q' v H') : liftV K r σ H Q' := by
  obtain ⟨env, G, F, rep, q⟩ := h
  exact ⟨env, G, F, rep, m _ _ _ (fun x e z v G' H' a b c => f _ _ (z v G' H' a b c)) q⟩
section
variable {x : Str} {a : Expr} {ra : RV} {px pos : Pos}
theorem qt_din (hu : X.A.units + 64 < cLine) (k : Nat) (ha : QV X a ra) (hN : X.N[k]? = some x := by rfl) (hv : Vis X.env.scope x := by first | exact Or.inl rfl | exact Or.inr (Or.inl rfl) | exact Or.inr (Or.inr rfl)) (hd : (x == ("__debug__" : Str)) = false := by decide)
    (hcd : (x == ("__classdict__" : Str)) = false := by decide) (h1 : behindInMarks .In (.Name x px) = false := by rfl) : QT X (.Compare a [.In] [.Name x px] pos) (rDIn false k ra) := by
  refine ⟨rDIn_mono ha.mono, pt_imp (pt_cmp (pc_din (by omega) ha.run (pe_var hN hv hd hcd)) h1) ?_⟩
  intro σ H Q h
  exact liftV_imp ha.mono (tDIn_of ha.mono h) fun y H1 ⟨p, vs, o, g2, g3, g4, q⟩ => ⟨.ref p, g2, p, o, rfl, g4, _, rfl, q⟩
theorem qt_dnotin (hu : X.A.units + 64 < cLine) (k : Nat) (ha : QV X a ra) (hN : X.N[k]? = some x := by rfl) (hv : Vis X.env.scope x := by first | exact Or.inl rfl | exact Or.inr (Or.inl rfl) | exact Or.inr (Or.inr rfl)) (hd : (x == ("__debug__" : Str)) = false := by decide)
    (hcd : (x == ("__classdict__" : Str)) = false := by decide) (h1 : behindInMarks .NotIn (.Name x px) = false := by rfl) : QT X (.Compare a [.NotIn] [.Name x px] pos) (rDIn true k ra) := by
  refine ⟨rDIn_mono ha.mono, pt_imp (pt_cmp (pc_dnotin (by omega) ha.run (pe_var hN hv hd hcd)) h1) ?_⟩
  intro σ H Q h
  exact liftV_imp ha.mono (tDIn_of ha.mono h) fun y H1 ⟨p, vs, o, g2, g3, g4, q⟩ => ⟨.ref p, g2, p, o, rfl, g4, _, rfl, q⟩
/-! ### d[k] -/
def rDGet (k : Nat) (ri : RV) : RV := fun env Q => dctAt env k fun _ => ri env fun j e => match j with
  | .int i => dctAt e k fun kvs => ∃ y, findD kvs (.inl i) = some y ∧ Q y e
  | _ => False
theorem qv_dget (hu : X.A.units + 64 < cLine) (k : Nat) (hi : QV X a ra) (hN : X.N[k]? = some x := by rfl) (hv : Vis X.env.scope x := by first | exact Or.inl rfl | exact Or.inr (Or.inl rfl) | exact Or.inr (Or.inr rfl)) (hd : (x == ("__debug__" : Str)) = false := by decide)
    (hcd : (x == ("__classdict__" : Str)) = false := by decide) (hs : NoSl a := by exact fun _ _ => rfl) : QV X (.Subscript (.Name x px) a pos) (rDGet k ra) := by
  refine ⟨fun env Q Q' f q => q.mono fun xs z => hi.mono _ _ _ (fun j e z => by
    split at z
    · exact z.mono fun xs ⟨y, h, q⟩ => ⟨y, h, f _ _ q⟩
    · exact z) z, pe_imp (pe_dget (by omega) (pe_var hN hv hd hcd) hi.run hs) ?_⟩
  intro σ H Q ⟨env, G, F, rep, q⟩
  obtain ⟨xs, g1, h1⟩ := q.get
  obtain ⟨p, vs, g2, g3, g4⟩ := rep.getK g1
  refine ⟨.ref p, g2, ?_⟩
  refine liftV_of hi.mono rep h1 fun j e u G1 H1 h1 s1 rep1 d1 => ?_
  split at h1
  · rename_i i
    cases d1
    obtain ⟨kvs, g5, y, hy, q⟩ := h1.get
    obtain ⟨p', ws, g6, g7, g8⟩ := rep1.getK g5
    rw [g2] at g6
    cases g6
    rcases dkv_find (.inl i) g8 with ⟨a1, b1⟩ | ⟨v, z, a1, b1, c1⟩
    · rw [b1] at hy
      cases hy
    · rw [b1] at hy
      cases hy
      have dg : DGet H1 p (kV (.inl i)) (some v) := by
        rw [← a1]
        exact DGet.k (k := .inl i) g7
      exact ⟨p, v, rfl, dg, q v G1 H1 s1 rep1 c1⟩
  · exact h1.elim
/-! ### sorted(d) -/
def keysI : List (Key × D) → Option (List Int)
  | [] => some []
  | (.inl i, _) :: r => (keysI r).map (i :: ·)
  | _ => none
theorem keysI_of : ∀ {kvs : List (Key × D)} {ks : List Int}, keysI kvs = some ks → kvs.map (·.1) = ks.map Sum.inl
  | [], ks, h => by
    cases h
    rfl
  | (.inl i, y) :: r, ks, h => by
    unfold keysI at h
    obtain ⟨l, e1, e2⟩ := Option.map_eq_some_iff.mp h
    rw [← e2, List.map_cons, List.map_cons, keysI_of e1]
  | (.inr i, y) :: r, ks, h => by
    unfold keysI at h
    cases h
def rSortD (k : Nat) : RE := fun env Q => dctAt env k fun kvs => ∃ ks, keysI kvs = some ks ∧ ks.length < 64 ∧ ∀ ns' : List Int, ns'.Perm ks → ns'.Pairwise (· ≤ ·) → Q (.own (ns'.map PyData.int)) env
theorem qe_sortD (k : Nat) {p : Pos} (calm : X.calm = true) (hm : X.mg "sorted" = none) (hN : X.N[k]? = some x := by rfl) (hv : Vis X.env.scope x := by first | exact Or.inl rfl | exact Or.inr (Or.inl rfl) | exact Or.inr (Or.inr rfl)) (hd : (x == ("__debug__" : Str)) = false := by decide)
    (hcd : (x == ("__classdict__" : Str)) = false := by decide) (hg : Gl X "sorted" := by rfl) (he : starEach [.Name x px] X.env = (false, eval (.Name x px) X.env) :: starEach [] X.env := by rfl) (hpl : (backTo pos (starEach [] X.env)).any (·.1) = false := by rfl) :
    QE X (.Call (.Name "sorted" p) [.Name x px] [] pos) (rSortD k) := by
  refine ⟨fun env Q Q' f q => q.mono fun kvs ⟨ks, h1, h2, h3⟩ => ⟨ks, h1, h2, fun ns a b => f _ _ (h3 ns a b)⟩, pe_imp (pe_callB (call_sortedDI calm) hg hm (by decide +kernel) (pa_cons (pe_var hN hv hd hcd) pa_nil he) (by decide) (by decide) he hpl) ?_⟩
  intro σ H Q ⟨env, G, F, rep, q⟩
  obtain ⟨kvs, g1, ks, h1, h2, h3⟩ := q.get
  obtain ⟨p, vs, g2, g3, g4⟩ := rep.getK g1
  refine ⟨.ref p, g2, p, vs, ks, rfl, .inl g3, by rw [dkv_keys g4, keysI_of h1], h2, fun ys l p1 p2 hl => ?_⟩
  exact h3 ys p1 p2 _ G _ idS (rep.lst hl (ints_rps ys))
end
end
end Pf
set_option Elab.async false
set_option linter.all false
set_option maxRecDepth 100000
set_option maxHeartbeats 1000000
/-! Pf: (flow, much, sorted(..)): a tuple that holds lists of one's own; a, b, c = such a one. -/
namespace Pf
open PySem PySem.Spec PyProof.Rows L2
def triOk (fs : List Int) (m : Int) (ms : List Int) (H : Hp) (v : V) (fp : List Addr) : Prop := ∃ p q t o, v = .ref p ∧ fp = [p, q, t] ∧ p ≠ q ∧ p ≠ t ∧ q ≠ t ∧ H p = some (.frz o (.tup [.ref q, .int m, .ref t])) ∧ H q = some (.lst (fs.map V.int)) ∧ H t = some (.lst (ms.map V.int))
def triR (fs : List Int) (m : Int) (ms : List Int) : Res where
  ok := triOk fs m ms
  loc := fun ⟨p, q, t, o, a1, a2, n1, n2, n3, a3, a4, a5⟩ e => by
    subst a2
    exact ⟨p, q, t, o, a1, rfl, n1, n2, n3, by rw [e p (by simp)]; exact a3, by rw [e q (by simp)]; exact a4, by rw [e t (by simp)]; exact a5⟩
  dom := fun ⟨p, q, t, o, a1, a2, n1, n2, n3, a3, a4, a5⟩ a m => by
    subst a2
    rcases List.mem_cons.mp m with m | m
    · rw [m, a3]
      exact fun z => nomatch z
    · rcases List.mem_cons.mp m with m | m
      · rw [m, a4]
        exact fun z => nomatch z
      · rw [List.mem_singleton.mp m, a5]
        exact fun z => nomatch z
  nd := fun ⟨p, q, t, o, a1, a2, n1, n2, n3, a3, a4, a5⟩ => by
    subst a2
    simp [n1, n2, n3]
section
variable {K : Fg} {G F H : Hp} {σ : L2.St} {env : Env}
/-- a slot's list, taken out: among what others hold -/
theorem Rep.take {xs : List D} {k : Nat} (r : Rep K G F H σ env) (h : env[k]? = some (some (.own xs))) : ∃ q vs, σ[k]? = some (some (.ref q)) ∧ F q = none ∧ RpAll K G vs xs ∧ Rep K G (upd F q (.lst vs)) H σ (env.set k none) := by
  obtain ⟨fp, s, w⟩ := r
  obtain ⟨fa, f1, fb, x, e1, e2, ⟨v, rfl, q, vs, rfl, rfl, hq, hd⟩, g⟩ := s.split h
  subst e1
  have mq : q ∈ fa ++ ([q] ++ fb) := by simp
  have hG : G q = none := w.pg q mq
  have hF : F q = none := w.pf q mq
  have nd := List.nodup_append.mp w.nd
  have nd2 := nd.2.1
  rw [List.singleton_append, List.nodup_cons] at nd2
  have hn : ∀ a ∈ fa ++ fb, a ≠ q := fun a m e => by
    subst e
    rcases List.mem_append.mp m with m | m
    · exact nd.2.2 a m a (by simp) rfl
    · exact nd2.1 m
  have s2 := g G H (some (.ref q)) none [] idS (fun _ _ => rfl) rfl
  rw [set_self e2] at s2
  have wd := w.drop
  refine ⟨q, vs, e2, hF, hd, _, s2, w.gh, same_updL w.fh hq, fun a e => ?_, wd.nd, wd.pg, fun a m => ?_⟩
  · rw [upd_ne (fun z => e (by rw [z]; exact hG))]
    exact w.gf a e
  · rw [upd_ne (hn a m)]
    exact wd.pf a m
theorem Rep.tri {p q t : Addr} {o : Obj} {fs ms : List Int} {m : Int} (r : Rep K G (upd (upd F t (.lst (ms.map V.int))) q (.lst (fs.map V.int))) H σ env) (hFq : F q = none) (hFt : F t = none) (hqt : q ≠ t) (hp : H p = none) :
    RepV K G F (upd H p (.frz o (.tup [.ref q, .int m, .ref t]))) σ env (.ref p) (.res (triR fs m ms)) := by
  obtain ⟨fp, s, w⟩ := r
  have uq : upd (upd F t (.lst (ms.map V.int))) q (.lst (fs.map V.int)) q = some (.lst (fs.map V.int)) := upd_same
  have ut : upd (upd F t (.lst (ms.map V.int))) q (.lst (fs.map V.int)) t = some (.lst (ms.map V.int)) := by rw [upd_ne hqt.symm]; exact upd_same
  have hq : H q = some (.lst (fs.map V.int)) := w.fh q _ uq
  have ht : H t = some (.lst (ms.map V.int)) := w.fh t _ ut
  have npq : p ≠ q := fun z => by rw [z, hq] at hp; cases hp
  have npt : p ≠ t := fun z => by rw [z, ht] at hp; cases hp
  have outp : ∀ a ∈ fp, a ≠ p := fun a m z => s.dom a m (by rw [z]; exact hp)
  have outq : ∀ a ∈ fp, a ≠ q := fun a m z => by
    have := w.pf a m
    rw [z, uq] at this
    cases this
  have outt : ∀ a ∈ fp, a ≠ t := fun a m z => by
    have := w.pf a m
    rw [z, ut] at this
    cases this
  have gq : G q = none := none_of fun o e => by
    have := w.gf q (by rw [e]; exact fun z => nomatch z)
    rw [uq] at this
    cases this
  have gt : G t = none := none_of fun o e => by
    have := w.gf t (by rw [e]; exact fun z => nomatch z)
    rw [ut] at this
    cases this
  have gp : G p = none := same_none w.gh hp
  have fpn : F p = none := by
    have := same_none w.fh hp
    rw [upd_ne npq, upd_ne npt] at this
    exact this
  have same : ∀ a, a ≠ q → a ≠ t → upd (upd F t (.lst (ms.map V.int))) q (.lst (fs.map V.int)) a = F a := fun a h1 h2 => by rw [upd_ne h1, upd_ne h2]
  refine ⟨fp, [p, q, t], s.mono idS fun a m => upd_ne (outp a m), ⟨p, q, t, o, rfl, rfl, npq, npt, hqt, upd_same, by rw [upd_ne npq.symm]; exact hq, by rw [upd_ne npt.symm]; exact ht⟩, fun a o e => ?_, fun a o e => ?_, fun a e => ?_, ?_, fun a m => ?_, fun a m => ?_⟩
  · rw [upd_ne (fun z => by rw [z, gp] at e; cases e)]
    exact w.gh a o e
  · rw [upd_ne (fun z => by rw [z, fpn] at e; cases e)]
    exact w.fh a o (by rw [same a (fun z => by rw [z, hFq] at e; cases e) (fun z => by rw [z, hFt] at e; cases e)]; exact e)
  · have := w.gf a e
    rw [same a (fun z => e (by rw [z]; exact gq)) (fun z => e (by rw [z]; exact gt))] at this
    exact this
  · show (p :: q :: t :: fp).Nodup
    rw [List.nodup_cons, List.nodup_cons, List.nodup_cons]
    refine ⟨fun m => ?_, fun m => ?_, fun m => outt t m rfl, w.nd⟩
    · rcases List.mem_cons.mp m with m | m
      · exact npq m
      · rcases List.mem_cons.mp m with m | m
        · exact npt m
        · exact outp p m rfl
    · rcases List.mem_cons.mp m with m | m
      · exact hqt m
      · exact outq q m rfl
  · rcases List.mem_append.mp m with m | m
    · rcases List.mem_cons.mp m with m | m
      · rw [m]; exact gp
      · rcases List.mem_cons.mp m with m | m
        · rw [m]; exact gq
        · rw [List.mem_singleton.mp m]; exact gt
    · exact w.pg a m
  · rcases List.mem_append.mp m with m | m
    · rcases List.mem_cons.mp m with m | m
      · rw [m]; exact fpn
      · rcases List.mem_cons.mp m with m | m
        · rw [m]; exact hFq
        · rw [List.mem_singleton.mp m]; exact hFt
    · rw [← same a (outq a m) (outt a m)]
      exact w.pf a m
/-- .. and what becomes of it when it is taken apart -/
theorem RepV.untri {v : V} {fs ms : List Int} {m : Int} (r : RepV K G F H σ env v (.res (triR fs m ms))) : ∃ p q t o, v = .ref p ∧ H p = some (.frz o (.tup [.ref q, .int m, .ref t])) ∧
    ∀ i j l, Rep K G F H (((σ.set i (some (.ref q))).set j (some (.int m))).set l (some (.ref t))) (((env.set i (some (.own (fs.map PyData.int)))).set j (some (.d (.int m)))).set l (some (.own (ms.map PyData.int)))) := by
  obtain ⟨fp, fpv, s, ⟨p, q, t, o, rfl, rfl, n1, n2, n3, hp, hq, ht⟩, w⟩ := r
  refine ⟨p, q, t, o, rfl, hp, fun i j l => ?_⟩
  have w2 : Hps G F H ([q] ++ ([t] ++ fp)) := w.sub (List.sublist_cons_self p _)
  -- the list of marks among what others hold, the flow put
  have ndt : ([q] ++ ([t] ++ fp)).Nodup := w2.nd
  have nq : q ∉ [t] ++ fp := by
    rw [List.singleton_append, List.nodup_cons] at ndt
    exact ndt.1
  have r1 : RepV K G (upd F t (.lst (ms.map V.int))) H σ env (.ref q) (.own (fs.map PyData.int)) := by
    refine ⟨fp, [q], s, ⟨q, _, rfl, rfl, hq, ints_rps fs⟩, w2.gh, same_updL w2.fh ht, fun a e => ?_, ?_, fun a m => ?_, fun a m => ?_⟩
    · rw [upd_ne (fun z => e (by rw [z]; exact w2.pg t (by simp)))]
      exact w2.gf a e
    · have : ([q] ++ fp).Sublist ([q] ++ ([t] ++ fp)) := List.Sublist.append (List.Sublist.refl _) (List.sublist_append_right _ _)
      exact ndt.sublist this
    · refine w2.pg a ?_
      rcases List.mem_append.mp m with m | m
      · exact List.mem_append_left _ m
      · exact List.mem_append_right _ (List.mem_append_right _ m)
    · have hat : a ≠ t := by
        rcases List.mem_append.mp m with m | m
        · rw [List.mem_singleton.mp m]; exact n3
        · intro z
          subst z
          rw [List.singleton_append, List.nodup_cons] at ndt
          have := ndt.2
          rw [List.singleton_append, List.nodup_cons] at this
          exact this.1 m
      rw [upd_ne hat]
      refine w2.pf a ?_
      rcases List.mem_append.mp m with m | m
      · exact List.mem_append_left _ m
      · exact List.mem_append_right _ (List.mem_append_right _ m)
  have r2 := r1.put i
  have r3 := (RepV.of r2 (Rp.int m)).put j
  have hFt : F t = none := w2.pf t (by simp)
  exact (r3.own hFt (ints_rps ms)).put l
end
/-! ### (flow, much, sorted(came)) -/
def rTri (k : Nat) (rm : RV) (rs : RE) : RE := fun env Q => ∃ xs0, env[k]? = some (some (.own xs0)) ∧ rm env fun y e1 => rs e1 fun o e2 => match y, o with
  | .int m, .own ys => ∃ fs ms, e2[k]? = some (some (.own (fs.map PyData.int))) ∧ ys = ms.map PyData.int ∧ Q (.res (triR fs m ms)) (e2.set k none)
  | _, _ => False
section
variable {X : Cx}
theorem qe_tri (k : Nat) {x : Str} {b c : Expr} {rm : RV} {rs : RE} {px pos : Pos} {x1 : Nat} (hb : QV X b rm) (hc : QE X c rs) (hN : X.N[k]? = some x := by rfl) (hv : Vis X.env.scope x := by first | exact Or.inl rfl | exact Or.inr (Or.inl rfl) | exact Or.inr (Or.inr rfl)) (hd : (x == ("__debug__" : Str)) = false := by decide)
    (hcd : (x == ("__classdict__" : Str)) = false := by decide) (h1 : starEach [.Name x px, b, c] X.env = (false, eval (.Name x px) X.env) :: starEach [b, c] X.env := by rfl) (h2 : starEach [b, c] X.env = (false, eval b X.env) :: starEach [c] X.env := by rfl)
    (h3 : starEach [c] X.env = (false, eval c X.env) :: starEach [] X.env := by rfl) : QE X (.Tuple [.Name x px, b, c] x1 pos) (rTri k rm rs) := by
  refine ⟨fun env Q Q' f ⟨xs0, a, q⟩ => ⟨xs0, a, hb.mono _ _ _ (fun y e z => hc.mono _ _ _ (fun o e2 z => by
    split at z
    · obtain ⟨fs, ms, z1, z2, z3⟩ := z
      exact ⟨fs, ms, z1, z2, f _ _ z3⟩
    · exact z) z) q⟩, pe_imp (pe_tupF (pa_cons (pe_var hN hv hd hcd) (pa_cons hb.run (pa_cons hc.run pa_nil h3) h2) h1)) ?_⟩
  intro σ H Q ⟨env, G, F, rep, xs0, e0, q⟩
  obtain ⟨q0, vs0, g2, g3, g4⟩ := rep.getO e0
  refine ⟨.ref q0, g2, ?_⟩
  refine liftV_of hb.mono rep q fun y e1 v G1 H1 h1 s1 rep1 d1 => ?_
  refine liftO_of hc.mono rep1 h1 fun o e2 u G2 H2 h2 s2 rep2 => ?_
  split at h2
  · rename_i m ys
    obtain ⟨fs, ms, ek, rfl, q⟩ := h2
    cases d1
    obtain ⟨t, vt, rfl, hFt, hdt, rh⟩ := rep2.hold
    obtain ⟨q1, vq, gq, hFq, hdq, rt⟩ := rh.take ek
    rw [g2] at gq
    cases gq
    have evt := rps_ints hdt
    have evq := rps_ints hdq
    subst evt evq
    have hqt : q0 ≠ t := fun z => by rw [z, upd_same] at hFq; cases hFq
    rw [upd_ne hqt] at hFq
    exact ⟨by show 3 ≤ sizeLine; rw [sizeLine_eq]; omega, fun p o ho hp => q _ G2 _ (s1.trans s2) (rt.tri hFq hFt hqt hp)⟩
  · exact h2.elim
/-! ### a, b, c = .. -/
def rUnTri (i j l : Nat) (r : RE) : RS := fun E env => r env fun o e => ∃ fs m ms, o = .res (triR fs m ms) ∧ E.nx (((e.set i (some (.own (fs.map PyData.int)))).set j (some (.d (.int m)))).set l (some (.own (ms.map PyData.int))))
theorem qs_unTri {kp : List Nat} {pos : Pos} (i j l : Nat) {x y z : Str} {px py pz pt : Pos} {kk : Nat} {a : Expr} {r : RE} (hc : X.calm = true) (hN : X.N.Nodup) (h : QE X a r) (hk : i ∉ kp ∧ j ∉ kp ∧ l ∉ kp := by decide)
    (hi : X.N[i]? = some x := by rfl) (hj : X.N[j]? = some y := by rfl) (hl : X.N[l]? = some z := by rfl) (hx : Loc X.env.scope x := by first | exact .inl rfl | exact .inr rfl) (hy : Loc X.env.scope y := by first | exact .inl rfl | exact .inr rfl) (hz : Loc X.env.scope z := by first | exact .inl rfl | exact .inr rfl)
    (hfx : X.fn x = true ∨ X.env.scope.names.lookup x = some .local := by first | exact .inl rfl | exact .inr rfl | assumption) (hfy : X.fn y = true ∨ X.env.scope.names.lookup y = some .local := by first | exact .inl rfl | exact .inr rfl | assumption) (hfz : X.fn z = true ∨ X.env.scope.names.lookup z = some .local := by first | exact .inl rfl | exact .inr rfl | assumption)
    (hn : (assignEach [.Name x px, .Name y py, .Name z pz] X.env).length = 3 := by rfl) (hst : (assignEach [.Name x px, .Name y py, .Name z pz] X.env).findIdx? (·.1) = none := by rfl)
    (hs1 : (assignEach [.Name x px, .Name y py, .Name z pz] X.env).map (·.2) = assign (.Name x px) X.env :: (assignEach [.Name y py, .Name z pz] X.env).map (·.2) := by rfl) (hs2 : (assignEach [.Name y py, .Name z pz] X.env).map (·.2) = assign (.Name y py) X.env :: (assignEach [.Name z pz] X.env).map (·.2) := by rfl)
    (hs3 : (assignEach [.Name z pz] X.env).map (·.2) = assign (.Name z pz) X.env :: (assignEach [] X.env).map (·.2) := by rfl)
    (hs : swapsWithSole [.Tuple [.Name x px, .Name y py, .Name z pz] kk pt] a pos.line X.env = pure false := by rfl) (hw : swappedStores [.Tuple [.Name x px, .Name y py, .Name z pz] kk pt] a X.env = pure none := by rfl)
    (h1 : (assignEach [.Tuple [.Name x px, .Name y py, .Name z pz] kk pt] X.env).map (·.2) = [assign (.Tuple [.Name x px, .Name y py, .Name z pz] kk pt) X.env] := by rfl) :
    QS X kp (.Assign [.Tuple [.Name x px, .Name y py, .Name z pz] kk pt] a pos) (rUnTri i j l r) := by
  refine ⟨fun A B env le q => h.mono _ _ _ (fun o e ⟨fs, m, ms, a, b⟩ => ⟨fs, m, ms, a, le.1 _ b⟩) q, ps_imp (ps_asg h.run (pg_tup hc (pgs_cons (pg_name hN hi hx hfx) (pgs_cons (pg_name hN hj hy hfy) (pgs_cons (pg_name hN hl hz hfz) pgs_nil hs3) hs2) hs1) hn hst) hs hw h1) ?_⟩
  intro E σ H ⟨env, G, F, rep, q⟩
  refine liftO_of h.mono rep q fun o e v G' H' hh s rv => ?_
  obtain ⟨fs, m, ms, rfl, q⟩ := hh
  obtain ⟨p, q1, t, ob, rfl, hp, fin⟩ := rv.untri
  refine ⟨p, _, rfl, .inl (.inr ⟨ob, hp⟩), rfl, .ref q1, _, rfl, .int m, _, rfl, .ref t, _, rfl, rfl, ?_⟩
  refine q _ G' H' s ?_ (fin i j l)
  intro a ha
  rw [List.getElem?_set_ne (fun e => hk.2.2 (by rw [e]; exact ha)), List.getElem?_set_ne (fun e => hk.2.1 (by rw [e]; exact ha)), List.getElem?_set_ne (fun e => hk.1 (by rw [e]; exact ha))]
end
end Pf
set_option Elab.async false
set_option linter.all false
set_option maxRecDepth 100000
set_option maxHeartbeats 1000000
/-! Pf: text * int, t[::-1] of a tuple, min, xs.index(n), sorted(t) of ints, len(set(xs)) of ints, two-clause comprehensions. -/
namespace Pf
open PySem PySem.Spec PyProof.Rows L2
/-! ### text * int -/
def repS (z : Str) (n : Int) : Str := if (n == 1 || z.length == 0) = true then z else ⟨(List.replicate n.toNat z.cps).foldl (· ++ ·) #[]⟩
def rRepS : R2 := fun x y H Q => ∃ z n, x = .str z ∧ y = .int n ∧ 1 ≤ n ∧ n ≤ 1000 ∧ z.length ≤ 1000 ∧ (repS z n).length ≤ sizeLine ∧ Q (.str (repS z n)) H
theorem op_repS {X : Cx} : OpR X (binaryOp .Mult) rRepS := by
  intro pins s σ H x y v u Q I rx ry ⟨z, n, ex, ey, h1, h2, hz, hl, q⟩
  subst ex ey
  obtain ⟨t, rfl⟩ := rx
  obtain ⟨t', rfl⟩ := ry
  have big : ((z.length : Nat) : Int) * n ≤ 1000000 := by
    have := Int.mul_le_mul_of_nonneg_right (show ((z.length : Nat) : Int) ≤ 1000 by omega) (show 0 ≤ n by omega)
    omega
  have fl : z.length * n.toNat ≤ 1000000 := by
    have := Nat.mul_le_mul hz (show n.toNat ≤ 1000 by omega)
    omega
  refine PySem.P.mul_str (by rw [decide_eq_false (show ¬ n < -(2 ^ 63) by omega), decide_eq_false (show ¬ n ≥ 2 ^ 63 by omega)] <;> rfl) (fun _ _ => ?_) (fun _ _ => ?_) ?_
  · have : (1000000 : Int) ≤ (2 ^ 63 - 1) / n := by
      rw [Int.le_ediv_iff_mul_le (by omega)]
      omega
    omega
  · unfold Builtin.Str.tooLong
    rw [decide_eq_false]
    rw [sizeLine_eq]; omega
  · rw [if_neg (by omega)]
    unfold repS at hl q
    split
    · rename_i c
      rw [if_pos c] at q
      exact ⟨.str z, H, I, ⟨_, rfl⟩, q⟩
    · rename_i c
      rw [if_neg c] at q hl
      exact ⟨hl, .str _, H, I.tok _, ⟨_, rfl⟩, q⟩
def dMulS : F2 := fun x y k => match x, y with
  | .str z, .int n => 1 ≤ n ∧ n ≤ 1000 ∧ z.length ≤ 1000 ∧ (repS z n).length ≤ sizeLine ∧ k (.d (.str (repS z n)))
  | _, _ => False
theorem dMulS_mono : dMulS.Mono := by
  intro x y k k' f h
  unfold dMulS at *
  split at h
  · exact ⟨h.1, h.2.1, h.2.2.1, h.2.2.2.1, f _ h.2.2.2.2⟩
  · exact h.elim
theorem dMulS_ok {K : Fg} : dMulS.Ok K rRepS := by
  intro G F H σ env x y v u k Q rep px py h q
  unfold dMulS at h
  split at h
  · exact ⟨_, _, px.str, py.int, h.1, h.2.1, h.2.2.1, h.2.2.2.1, q _ _ G H h.2.2.2.2 idS (.of rep (.str _))⟩
  · exact h.elim
theorem qe_mulS {X : Cx} {a b : Expr} {ra rb : RP} {pos : Pos} (ha : QP X a ra) (hb : QP X b rb) : QE X (.BinOp a .Mult b pos) (rOp dMulS ra rb) := qe_op op_repS dMulS_ok dMulS_mono ha hb

/-! ### t[::-1] -/
theorem adj_rev (n : Nat) : Builtin.Slice.sliceAdjust none none (-1) (n : Int) = ((n : Int) - 1, -1) := by
  first
  | rfl
  | simp [Builtin.Slice.sliceAdjust]
theorem places_rev (n : Nat) : Builtin.Slice.slicePlaces ((n : Int) - 1) (-1) (-1) = n := by
  unfold Builtin.Slice.slicePlaces
  first
  | omega
  | (simp; omega)
  | (split <;> simp <;> omega)
section
variable {prog : Program} {w : World} {A : Around} {E : Value → Shared → Prop} {s : Shared}
theorem sliceApplied_rev {sl : Addr} {vs : Value} {n : Nat} {Q : Int × Int × Nat → Shared → Prop} (hs : s.heap.IsSliceOf sl .none .none vs) (pv : IsPart vs (some (-1)))
    (h : Q ((n : Int) - 1, -1, n) s) : wpAny (model prog w) A (Builtin.Slice.sliceApplied (.ref sl) (pure (n : Int))) Q E s := by
  obtain ⟨os, hos, hcs, hds⟩ := id hs
  unfold Builtin.Slice.sliceApplied Builtin.Slice.sliceFields
  refine wpAny_bind (wpAny_bind (wpAny_field hos hds (x := .none) rfl (wpAny_bind (wpAny_field hos hds (x := .none) rfl (wpAny_bind (wpAny_field hos hds (x := vs) rfl (wpAny_pure ?_)))))))
  refine wpAny_bind (HT.slicePart_ pv ?_)
  show wpAny _ _ (if ((-1 : Int) == 0) = true then _ else _) _ _ s
  rw [if_neg (by decide)]
  refine wpAny_bind (PyProof.Rows.slicePart_none (wpAny_bind (PyProof.Rows.slicePart_none (wpAny_bind (wpAny_pure ?_)))))
  show wpAny _ _ (match Builtin.Slice.sliceAdjust none none (-1) (n : Int) with | (lo, hi) => pure (lo, (-1 : Int), Builtin.Slice.slicePlaces lo hi (-1))) _ _ s
  rw [adj_rev]
  show wpAny _ _ (pure ((n : Int) - 1, (-1 : Int), Builtin.Slice.slicePlaces ((n : Int) - 1) (-1) (-1))) _ _ s
  rw [places_rev]
  exact wpAny_pure h
theorem fm_congr {α β : Type} {f g : α → Option β} : ∀ {l : List α}, (∀ m ∈ l, f m = g m) → l.filterMap f = l.filterMap g
  | [], _ => rfl
  | x :: l, h => by rw [List.filterMap_cons, List.filterMap_cons, h x List.mem_cons_self, fm_congr fun m hm => h m (List.mem_cons_of_mem _ hm)]
theorem pick_rev (xs : Array Value) : ((List.range xs.size).filterMap fun (m : Nat) => xs[(((xs.size : Int) - 1) + (m : Int) * (-1)).toNat]?).toArray = xs.toList.reverse.toArray := by
  have e : ∀ m ∈ List.range xs.size, xs[(((xs.size : Int) - 1) + (m : Int) * (-1)).toNat]? = xs[xs.size - 1 - m]? := fun m hm => by
    have := List.mem_range.mp hm
    have : (((xs.size : Int) - 1) + (m : Int) * (-1)).toNat = xs.size - 1 - m := by omega
    rw [this]
  rw [fm_congr e]
  have h := PySem.W.krv_all xs
  rw [← h, ← List.filterMap_reverse, ← PySem.W.krv_range, List.filterMap_map]
  rfl
theorem getItem_tuple_rev {t sl : Addr} {items : Array Value} {vs : Value} {Q : Value → Shared → Prop} (ht : IsTup s.heap t items) (hs : s.heap.IsSliceOf sl .none .none vs) (pv : IsPart vs (some (-1)))
    (h : Q (.ref s.heap.objs.size) { s with heap := s.heap.push { cls := .type "tuple", data := .seq items.toList.reverse.toArray } })
    (hsz : items.size ≤ sizeLine) : wpAny (model prog w) A (getItem (.ref t) (.ref sl)) Q E s := by
  have htake : sizeOk (.seq items.toList.reverse.toArray) := by
    show items.toList.reverse.toArray.size ≤ sizeLine
    rw [List.size_toArray, List.length_reverse, Array.length_toList]
    omega
  obtain ⟨os, hos, hcs, hds⟩ := id hs
  have hTs : s.TypeIs (.ref sl) "slice" := ⟨os, hos, hcs⟩
  unfold getItem
  try with_reducible refine wpAny_holding ?_
  first | refine wpAny_bind (wpAny_pure ?_) | skip
  refine wpAny_bind (wpAny_sequenceKey ht.typeIs (by decide) ?_)
  refine wpAny_bind (wpAny_callSpecial?_slot (name := Str.ofString "__getitem__") ht.typeIs PyProof.Rows.slot_tuple_getitem
    (wpAny_call_entry PyProof.Rows.slot_tuple_getitem ht.typeIs entry_tuple_getitem ?_ (args_tuple_getitem _ _)))
  show wpAny _ _ (Builtin.Tuple.tupleItemsOf (.ref t) >>= _) _ _ s
  refine wpAny_bind (tupleItemsOf_ ht ?_)
  refine wpAny_bind (wpAny_typeOf hTs ?_)
  rw [if_pos (by decide)]
  refine wpAny_bind (sliceApplied_rev hs pv ?_)
  have hno : ¬ ((((items.size : Int) - 1) == 0 && (-1 : Int) == 1 && items.size == items.size) = true) := by
    intro q
    rw [Bool.and_eq_true, Bool.and_eq_true] at q
    exact absurd q.1.2 (by decide)
  show wpAny _ _ (if (((items.size : Int) - 1) == 0 && (-1 : Int) == 1 && items.size == items.size) = true then _ else _) _ _ s
  rw [if_neg hno, pick_rev]
  first
    | exact wpAny_bind (m := Builtin.Tuple.tupleExact _) (wpAny_newObj_type (wpAny_pure ⟨_, rfl, wpAny_pure h⟩) htake)
    | exact wpAny_bind (m := Builtin.Tuple.tupleExact _) (wpAny_newObj_type (wpAny_bind (wpAny_pure (wpAny_pure ⟨_, rfl, wpAny_pure h⟩))) htake)
    | exact wpAny_bind (wpAny_bind (m := Builtin.Tuple.tupleExact _) (wpAny_newObj_type (wpAny_pure (wpAny_pure ⟨_, rfl, wpAny_pure h⟩)) htake))
    | exact wpAny_bind (wpAny_bind (m := Builtin.Tuple.tupleExact _) (wpAny_newObj_type (wpAny_pure ⟨_, rfl, wpAny_pure h⟩) htake))
end
def tRevT (K : Fg) (te : TE) : TE := fun σ H Q => te σ H fun x H1 => ∃ a xs, x = .ref a ∧ SqT K H1 a xs ∧ ∀ p o, o.dict = none → H1 p = none → Q (.ref p) (upd H1 p (.frz o (.tup xs.reverse)))
theorem pe_revT {X : Cx} {e : Expr} {te : TE} {k : Nat} {p1 p2 p3 pos : Pos} (he : PE X e te) : PE X (.Subscript e (.Slice none none (some (.UnaryOp .USub (.Constant (.int 1) k p1) p2)) p3) pos) (tRevT X.K te) := by
  refine ⟨fun pins s σ H Q I h => ?_⟩
  refine Subscript_ (thn (he.run pins s σ H _ I h) fun v s1 ⟨x, H1, I1, r1, q1⟩ => ?_)
  obtain ⟨a, xs, ex, hx, q⟩ := q1
  subst ex
  cases r1
  have hst : PO X (some (.UnaryOp .USub (.Constant (.int 1) k p1) p2)) (tPart (tUn (rU fun i => .int (-i)) (tC (.int 1)))) := po_some (pe_un un_neg pe_int)
  refine wpAny_Slice (thn (po_none.run pins s1 σ H1 (fun o H2 => o = none ∧ H2 = H1) I1 ⟨rfl, rfl⟩) fun vl s2 ⟨l, H2, I2, pl, el, e2⟩ => ?_)
  subst el e2
  refine thn (po_none.run pins s2 σ H2 (fun o H3 => o = none ∧ H3 = H2) I2 ⟨rfl, rfl⟩) fun vu s3 ⟨u, H3, I3, pu, eu, e3⟩ => ?_
  subst eu e3
  refine thn (hst.run pins s3 σ H3 (fun o H4 => o = some (-1) ∧ H4 = H3) I3 ⟨1, rfl, -1, rfl, rfl, rfl⟩) fun vs s4 ⟨o, H4, I4, ps, eo, e4⟩ => ?_
  subst eo e4
  have el : vl = .none := by cases pl; rfl
  have eu : vu = .none := by cases pu; rfl
  subst el eu
  have I5 : Inv X pins σ H4 { s4 with heap := s4.heap.push { cls := .type "slice", data := .fields #[.none, .none, vs] } } := I4.kept (t' := s4.toks) fun b ob q => Heap.get?_push_of_some _ q
  obtain ⟨its, r, ht, hz⟩ := I5.tuple hx
  have hlen := r.length
  show wpAny (model X.prog X.w) X.A (subscriptTail e (.Slice none none (some (.UnaryOp .USub (.Constant (.int 1) k p1) p2)) p3) (.ref a) (.ref s4.heap.objs.size)) (EP X pins σ Q) X.xe { s4 with heap := s4.heap.push { cls := .type "slice", data := .fields #[.none, .none, vs] } }
  refine tail_any (ops := [.ref a, .ref s4.heap.objs.size]) ht.typeIs (PyProof.Rows.slot_tuple_getitem.lookup) ?_ (by with_unfolding_all rfl)
  refine getItem_tuple_rev ht (Heap.IsSliceOf.new _ .none .none vs) ps ?_ (by rw [List.size_toArray]; omega)
  refine ⟨.ref _, _, I5.laid (t' := s4.toks) (fun b ob q => Heap.get?_push_of_some _ q) (Nat.le_refl _) (frz_new (Heap.get?_push_size _ rfl) r.reverse (by rw [List.length_reverse]; exact hz)), rfl, q _ _ rfl (I5.hok.fresh (Nat.le_refl _))⟩
def rRevT (r : RP) : RE := fun env Q => r env fun a e => dref e a fun x => match x with
  | .tuple xs => Q (.d (.tuple xs.reverse)) e
  | _ => False
theorem qe_revT {X : Cx} {a : Expr} {r : RP} {k : Nat} {p1 p2 p3 pos : Pos} (h : QP X a r) : QE X (.Subscript a (.Slice none none (some (.UnaryOp .USub (.Constant (.int 1) k p1) p2)) p3) pos) (rRevT r) := by
  refine ⟨fun env Q Q' f q => h.mono _ _ _ (fun x e z => dref.mono (fun y z => ?_) z) q, pe_imp (pe_revT h.run) ?_⟩
  · split at z
    · exact f _ _ z
    · exact z
  intro σ H Q ⟨env, G, F, rep, q⟩
  refine liftP_of h.mono rep q fun x e v G1 H1 h1 s1 rep1 d1 => ?_
  obtain ⟨y, p1, h2⟩ := dref_pk rep1 d1 h1
  split at h2
  · obtain ⟨p, vs, rfl, g1, d2⟩ := p1.tup
    refine ⟨p, vs, rfl, (tq_mono rep1.gh g1).sq, fun q o ho hq => ?_⟩
    have r2 := rep1.tup hq ho (rps_rev d2)
    exact h2 _ _ _ (s1.trans r2.1) r2.2
  · exact h2.elim

/-! ### min -/
section
variable {X : Cx} {e e2 : Expr} {ra : RA} {p pos : Pos}
theorem qe_min2 (hc : X.calm = true) (hm : X.mg "min" = none) (ha : QA X [e, e2] ra) (hg : Gl X "min" := by rfl) (he : starEach [e, e2] X.env = (false, eval e X.env) :: starEach [e2] X.env := by rfl) (hpl : (backTo pos (starEach [e2] X.env)).any (·.1) = false := by rfl) : QE X (.Call (.Name "min" p) [e, e2] [] pos) (rCB fMin2 ra) := qe_callB (r := fun xs H Q => ∃ i j, xs = [.int i, .int j] ∧ True ∧ Q (.int (if j < i then j else i)) H) (CallR.imp (call_min2 hc) fun vs H Q ⟨i, j, e, _, q⟩ => ⟨i, j, e, q⟩) fI2_ok fI2_mono hm ha (by decide +kernel) hg (by decide) (by decide) he hpl
theorem qe_min (hc : X.calm = true) (hm : X.mg "min" = none) (ha : QA X [e] ra) (hg : Gl X "min" := by rfl) (he : starEach [e] X.env = (false, eval e X.env) :: starEach [] X.env := by rfl) (hpl : (backTo pos (starEach [] X.env)).any (·.1) = false := by rfl) : QE X (.Call (.Name "min" p) [e] [] pos) (rCB (fExt fun y m => m ≤ y) ra) := qe_callB (cr_min hc) fMin_ok fExt_mono hm ha (by decide +kernel) hg (by decide) (by decide) he hpl
end

/-! ### xs.index(n), ints of one's own -/
def rIndexO (k : Nat) (re : RV) : RV := fun env Q => ownAt env k fun _ => re env fun y e => match y with
  | .int b => ownAt e k fun xs => ∃ ns j, intsOf xs = some ns ∧ ns[j]? = some b ∧ (∀ m, m < j → ns[m]? ≠ some b) ∧ Q (.int (j : Nat)) e
  | _ => False
theorem qv_indexO {X : Cx} (k : Nat) {x : Str} {i : Expr} {ri : RV} {px apos cpos : Pos} (hi : QV X i ri) (hN : X.N[k]? = some x := by rfl) (hv : Vis X.env.scope x := by first | exact Or.inl rfl | exact Or.inr (Or.inl rfl) | exact Or.inr (Or.inr rfl)) (hd : (x == ("__debug__" : Str)) = false := by decide)
    (hcd : (x == ("__classdict__" : Str)) = false := by decide) (hbase : attributeBase (.Name x px) "index" X.env (eval (.Name x px) X.env) = eval (.Name x px) X.env := by rfl)
    (hfew : ((backTo cpos (starEach [i] X.env)).all (fun x => !x.1) && (backToKw cpos (keywordEach [] X.env)).all (fun x => x.1.isSome) && decide (([i] : List Expr).length + ([] : List Keyword).length + (if ([] : List Keyword).isEmpty then 0 else 1) < 30)) = true := by rfl)
    (hline : (apos.endLine == cpos.line) = true := by rfl) (hs : starEach [i] X.env = (false, eval i X.env) :: starEach [] X.env := by rfl) (hplain : (backTo cpos (starEach [] X.env)).any (·.1) = false := by rfl) :
    QV X (.Call (.Attribute (.Name x px) "index" apos) [i] [] cpos) (rIndexO k ri) := by
  refine ⟨fun env Q Q' f q => q.mono fun xs z => hi.mono _ _ _ (fun j e z => ?_) z, pe_imp (pe_bm PySem.F.plainAttrs_list PySem.F.slot_list_index PySem.F.type_list_index mt_index (pe_var hN hv hd hcd) (pa_cons hi.run pa_nil hs) hbase hfew hline hs hplain) ?_⟩
  · split at z
    · exact z.mono fun xs ⟨ns, j, a, b, c, z⟩ => ⟨ns, j, a, b, c, f _ _ z⟩
    · exact z
  intro σ H Q ⟨env, G, F, rep, q⟩
  obtain ⟨xs, g1, h1⟩ := q.get
  obtain ⟨p, vs, g2, g3, g4, _⟩ := rep.mut g1
  refine ⟨.ref p, g2, ty_list g3, ?_⟩
  refine liftV_of hi.mono rep h1 fun y e v G1 H1 h1 s1 rep1 d1 => ?_
  split at h1
  · rename_i b
    cases d1
    obtain ⟨ys, g5, ns, j, e1, h2, h3, h4⟩ := h1.get
    obtain ⟨p', ws, g6, g7, g8, g9⟩ := rep1.mut g5
    rw [g2] at g6
    cases g6
    have ew := rps_intsOf g8 e1
    subst ew
    refine ⟨p, _, .int b, j, .int b, rfl, rfl, .inl (.inl g7), rfl, ?_, ?_, ?_, fun m z' hm hz' => ?_, h4 _ G1 _ s1 rep1 (.int _)⟩
    · rw [List.all_map]
      exact List.all_eq_true.mpr fun _ _ => rfl
    · rw [List.getElem?_map, h2]; rfl
    · show (b == b) = true
      exact beq_self_eq_true b
    · rw [List.getElem?_map] at hz'
      obtain ⟨c, ec, rfl⟩ := Option.map_eq_some_iff.mp hz'
      show (c == b) = false
      exact beq_eq_false_iff_ne.mpr fun z => h3 m hm (by rw [ec, z])
  · exact h1.elim

/-! ### len(set(xs)), distinct ints of one's own -/
def rLenSetI (ra : RP) : RV := fun env Q => ra env fun a e => dref e a fun x => match x with
  | .list ts => ∃ ns, intsOf ts = some ns ∧ ns.Nodup ∧ ns.length ≤ 4000 ∧ Q (.int ns.length) e
  | _ => False
theorem qv_lensetI {X : Cx} {a : Expr} {r : RP} {p p2 q pos : Pos} (hc : X.calm = true) (hm : X.mg "len" = none) (hm2 : X.mg "set" = none) (h : QP X a r) (hg : Gl X "len" := by rfl) (hg2 : Gl X "set" := by rfl) (na : starEach [a] X.env = (false, eval a X.env) :: starEach [] X.env := by rfl) :
    QV X (.Call (.Name "len" p) [.Call (.Name "set" p2) [a] [] q] [] pos) (rLenSetI r) := by
  refine ⟨fun env Q Q' f z => h.mono _ _ _ (fun x e z => dref.mono (fun y z => ?_) z) z, pe_imp (RZ.pe_lenSetI hg hm hg2 hm2 h.run hc na) ?_⟩
  · split at z
    · obtain ⟨zs, a, b, c, z⟩ := z
      exact ⟨zs, a, b, c, f _ _ z⟩
    · exact z
  intro σ H Q ⟨env, G, F, rep, q⟩
  refine liftP_of h.mono rep q fun x e v G1 H1 h1 s1 rep1 d1 => ?_
  obtain ⟨y, p1, h2⟩ := dref_pk rep1 d1 h1
  split at h2
  · obtain ⟨ns, e1, e2, e3, h3⟩ := h2
    obtain ⟨l, vs, rfl, g1, d2⟩ := p1.lst rep1.gh
    have ev := rps_intsOf d2 e1
    subst ev
    exact ⟨l, ns, rfl, .inl g1, e2, e3, h3 _ G1 H1 s1 rep1 (.int _)⟩
  · exact h2.elim
/-! ### a, b = x, y by names -/
def rPar (i j : Nat) (ra rb : RV) : RS := fun E env => ra env fun x e1 => rb e1 fun y e2 => E.nx ((e2.set i (some (.d x))).set j (some (.d y)))
theorem qs_par {X : Cx} {kp : List Nat} {pos : Pos} (i j : Nat) {x y : Str} {a b : Expr} {ra rb : RV} {px py pt pt2 : Pos} {kt k2 : Nat} (hc : X.calm = true) (hN : X.N.Nodup) (ha : QV X a ra) (hb : QV X b rb) (hk : i ∉ kp ∧ j ∉ kp := by decide) (hi : X.N[i]? = some x := by rfl) (hj : X.N[j]? = some y := by rfl) (hij : i ≠ j := by decide)
    (hx : X.env.scope.names.lookup x = some .local := by rfl) (hy : X.env.scope.names.lookup y = some .local := by rfl) (h1 : starEach [a, b] X.env = (false, eval a X.env) :: starEach [b] X.env := by rfl) (h2 : starEach [b] X.env = (false, eval b X.env) :: starEach [] X.env := by rfl)
    (hw : swappedStores [.Tuple [.Name x px, .Name y py] kt pt] (.Tuple [a, b] k2 pt2) X.env = pure (some [x, y]) := by rfl) (hs : swapsWithSole [.Tuple [.Name x px, .Name y py] kt pt] (.Tuple [a, b] k2 pt2) pos.line X.env = pure false := by rfl) :
    QS X kp (.Assign [.Tuple [.Name x px, .Name y py] kt pt] (.Tuple [a, b] k2 pt2) pos) (rPar i j ra rb) := by
  refine ⟨fun A B env le q => ha.mono _ _ _ (fun o e z => hb.mono _ _ _ (fun o2 e2 z => le.1 _ z) z) q, ps_imp (ps_par hc hN hi hj hij hx hy (pa_cons ha.run (pa_cons hb.run pa_nil h2) h1) hw hs) ?_⟩
  intro E σ H ⟨env, G, F, rep, q⟩
  refine liftV_of ha.mono rep q fun o e1 v G1 H1 z1 s1 rep1 d1 => ?_
  refine liftV_of hb.mono rep1 z1 fun o2 e2 u G2 H2 z2 s2 rep2 d2 => ?_
  refine ⟨v, u, rfl, z2 _ G2 H2 (s1.trans s2) (fun a m => ?_) ?_⟩
  · rw [List.getElem?_set_ne (fun e => hk.2 (by rw [e]; exact m)), List.getElem?_set_ne (fun e => hk.1 (by rw [e]; exact m))]
  · have r1 := (RepV.of rep2 (rp_mono s2 o d1)).put i
    exact (RepV.of r1 d2).put j
end Pf
set_option Elab.async false
set_option linter.all false
set_option maxRecDepth 100000
set_option maxHeartbeats 1000000
/-! Pf: sorted(t) of a tuple of ints; [elt for x in xs for y in ys]. -/
namespace Pf
open PySem PySem.Spec PyProof.Rows L2
section
variable {prog : Program} {w : World} {A : Around} {E : Value → Shared → Prop} {s : Shared}
theorem collect_tup {l : Addr} {vs : List Value} {Q : List Value → Shared → Prop} (hl : s.heap.IsTuple l vs.toArray)
    (h : Q vs { s with heap := (s.heap.push (seqObj "list" #[] 0)).update s.heap.objs.size (Obj.mapSeq (· ++ vs.toArray)) }) (hsz : vs.length ≤ sizeLine) :
    wpAny (model prog w) A (collect (.ref l)) Q E s := by
  obtain ⟨o, ho, hc, n, hd⟩ := id hl
  unfold collect
  refine wpAny_bind (wpAny_runValue (codeAny_builtin entry_proto_collect' ?_))
  show wpAny _ _ (do again (.builtin "list.__iadd__" ⟨[← newList [], .ref l], []⟩)) _ _ s
  refine wpAny_bind (wpAny_newList (wpAny_pure ⟨Code.quiet_builtin _ (by decide +kernel), codeAny_builtin entry_list_iadd' ?_⟩))
  show wpAny _ _ (Builtin.List.listExtendWith (.ref s.heap.objs.size) (.ref l) (.ref s.heap.objs.size)) _ _ { s with heap := s.heap.push (seqObj "list" #[] 0) }
  unfold Builtin.List.listExtendWith
  have ho' : (s.heap.push (seqObj "list" #[] 0)).get? l = some o := Heap.get?_push_of_some _ ho
  refine wpAny_bind (wpAny_typeOf (T := "tuple") ⟨o, ho', hc⟩ ?_)
  have ht : (Value.type "tuple" == Value.type "tuple") = true := by rfl
  rw [if_pos (by rw [ht]; simp)]
  refine wpAny_bind (listItems_at ho' hd ?_)
  refine wpAny_bind (listItems_at (xs := #[]) (n := 0) (Heap.get?_push_size _ rfl) rfl ?_)
  rw [if_neg (by simp)]
  refine wpAny_bind (listUpdate_at (xs := #[]) (n := 0) (Heap.get?_push_size _ rfl) rfl ?_ (Nat.zero_le _) (by show (#[] ++ vs.toArray).size ≤ sizeLine + 1; simp only [Array.size_append, List.size_toArray, List.length_nil]; omega))
  refine wpAny_pure ?_
  show wpAny (model prog w) A (do
      let o ← load s.heap.objs.size
      match o.data with
      | .seq xs _ => pure xs.toList
      | _ => unsupported "internal:collect") Q E { s with heap := (s.heap.push (seqObj "list" #[] 0)).update s.heap.objs.size (Obj.mapSeq (· ++ vs.toArray)) }
  refine wpAny_bind (wpAny_load (get?_update_seq (Heap.get?_push_size _ rfl) _) ?_)
  show wpAny _ _ (pure ((#[] : Array Value) ++ vs.toArray).toList) Q E _
  rw [show ((#[] : Array Value) ++ vs.toArray).toList = vs by simp]
  exact wpAny_pure h
theorem sorted_intsT {l : Addr} {vs : List Value} {ns : List Int} {Q : Value → Shared → Prop} (hl : s.heap.IsTuple l vs.toArray) (hI : IntsAre vs ns) (h64 : vs.length < 64)
    (h : ∀ (out : Array Value) (ns' : List Int), IntsAre out.toList ns' → ns'.Perm ns → ns'.Pairwise (· ≤ ·) → Q (.ref (s.heap.objs.size + 1)) { s with heap := sortedAll s.heap vs out }) :
    wpAny (model prog w) A (call (.builtin "sorted") [.ref l]) Q E s := by
  refine Calls.call_function_entry kind_sorted plain_sorted entry_sorted (args_sorted1 _) ?_
  unfold Builtin.«sorted»
  refine wpAny_bind (m := checkCount "sorted" 1 1 _) (wpAny_pure ?_)
  refine wpAny_bind (collect_tup hl ?_ (small64 h64))
  refine wpAny_bind (wpAny_newList ?_)
  have hsz : ((s.heap.push (seqObj "list" #[] 0)).update s.heap.objs.size (Obj.mapSeq (· ++ vs.toArray))).objs.size = s.heap.objs.size + 1 := by
    rw [Heap.size_update, Heap.size_push]
  have hoL : (((s.heap.push (seqObj "list" #[] 0)).update s.heap.objs.size (Obj.mapSeq (· ++ vs.toArray))).push (seqObj "list" vs.toArray 0)).get? (s.heap.objs.size + 1) = some (seqObj "list" vs.toArray 0) := by
    rw [← hsz]; exact Heap.get?_push_size _ rfl
  show wpAny _ _ _ _ _ { s with heap := ((s.heap.push (seqObj "list" #[] 0)).update s.heap.objs.size (Obj.mapSeq (· ++ vs.toArray))).push (seqObj "list" vs.toArray 0) }
  rw [hsz]
  refine wpAny_bind (wpAny_holding (wpAny_call_entry slot_list_sort ⟨_, hoL, rfl⟩ entry_list_sort (list_sort_tree hoL hI h64 fun out ns' a1 a2 a3 => ⟨_, rfl, ?_⟩) (args_list_sort _)))
  exact wpAny_pure ⟨_, rfl, h out ns' a1 a2 a3⟩
end
def rSortedT (K : Fg) : List V → Hp → VK → Prop := fun vs H Q => ∃ (a : Addr) (ns : List Int), vs = [V.ref a] ∧ SqT K H a (ns.map V.int) ∧ ns.length < 64 ∧
  ∀ (ns' : List Int) (p : Addr), ns'.Perm ns → ns'.Pairwise (· ≤ ·) → H p = none → Q (.ref p) (upd H p (.lst (ns'.map V.int)))
theorem cr_sortedT {X : Cx} : CallR X (.builtin "sorted") (rSortedT X.K) := by
  intro pins s σ H vs us Q I r h
  obtain ⟨a, ns, rfl, hs, h64, q⟩ := h
  obtain ⟨its, rv, hl, _⟩ := I.tuple hs
  rw [Vals.ref1 r]
  have hi := rv.ints
  refine sorted_intsT hl hi (by rw [hi.length]; exact h64) fun out ns' h1 h2 h3 => ?_
  obtain ⟨ep, he'⟩ := PyProof.Rows.sortedAll_at s.heap its out
  have hlen : (ns'.map V.int).length ≤ sizeLine := by rw [List.length_map, h2.length_eq]; exact small64 h64
  exact ⟨.ref _, upd H (s.heap.objs.size + 1) (.lst (ns'.map V.int)), I.laid (t' := s.toks) (fun _ _ => PyProof.Rows.sortedAll_old) (Nat.le_succ _) ⟨hlen, out.toList, ep, vals_of_ints h1, he'⟩, rfl, q ns' _ h2 h3 (I.hok.fresh (Nat.le_succ _))⟩
def fSortedT : FN := fun xs k => match xs with
  | [.tuple ys] => ∃ ns, intsOf ys = some ns ∧ ns.length < 64 ∧ ∀ ns' : List Int, ns'.Perm ns → ns'.Pairwise (· ≤ ·) → k (.own (ns'.map PyData.int))
  | _ => False
theorem fSortedT_mono : fSortedT.Mono := by
  intro xs k k' f h
  unfold fSortedT at *
  split at h
  · obtain ⟨ns, e, e2, h⟩ := h; exact ⟨ns, e, e2, fun m a b => f _ (h m a b)⟩
  · exact h.elim
theorem fSortedT_ok {K : Fg} : fSortedT.Ok K (rSortedT K) := by
  intro G F H σ env xs vs k Q rep ps h q
  unfold fSortedT at h
  split at h
  · obtain ⟨ns, e, e2, h⟩ := h
    obtain ⟨v, rfl, p⟩ := ps.one
    obtain ⟨a, ws, rfl, h1, d1⟩ := p.tup
    have ew := rps_intsOf d1 e
    subst ew
    exact ⟨a, ns, rfl, (tq_mono rep.gh h1).sq, e2, fun ns' p m1 m2 hp => q _ _ G _ (h ns' m1 m2) idS (rep.lst hp (ints_rps ns'))⟩
  · exact h.elim
theorem qe_sortedT {X : Cx} {e : Expr} {ra : RA} {p pos : Pos} (hm : X.mg "sorted" = none) (ha : QA X [e] ra) (hg : Gl X "sorted" := by rfl) (he : starEach [e] X.env = (false, eval e X.env) :: starEach [] X.env := by rfl) (hpl : (backTo pos (starEach [] X.env)).any (·.1) = false := by rfl) : QE X (.Call (.Name "sorted" p) [e] [] pos) (rCB fSortedT ra) := qe_callB cr_sortedT fSortedT_ok fSortedT_mono hm ha (by decide +kernel) hg (by decide) (by decide) he hpl

/-! ### [elt for x in xs for y in ys] -/
def rLc2 (ri : RF) (t : RG) (c : RT) (r1 : RV) (t1 : RG) (c1 : RT) (re : RV) (vs vs1 : List Nat) : RE := fun env Q => ri env fun xs e0 => ∃ I : Nat → List D → Env → Prop, I 0 [] e0 ∧
  (∀ i x acc e, xs[i]? = some x → I i acc e → t x (wipeE e vs) fun e1 => c e1 fun b e2 => if b = true then rFs r1 e2 fun ys e3 => ∃ J : Nat → List D → Env → Prop, J 0 acc e3 ∧
      (∀ j y acc1 e4, ys[j]? = some y → J j acc1 e4 → t1 y (wipeE e4 vs1) fun e5 => c1 e5 fun b e6 => if b = true then re e6 fun z e7 => acc1.length < sizeLine ∧ J (j + 1) (acc1 ++ [z]) (backE e4 e7 vs1) else J (j + 1) acc1 (backE e4 e6 vs1)) ∧
      ∀ acc1 e4, J ys.length acc1 e4 → I (i + 1) acc1 (backE e e4 vs)
    else I (i + 1) acc (backE e e2 vs)) ∧
  ∀ acc e, I xs.length acc e → Q (.own acc) e
section
variable {X : Cx} {elt tg iter tg1 iter1 : Expr} {ifs ifs1 : List Expr} {scope : Scope} {own : List (Str × Nat)} {pos : Pos} {sl sl1 vs1 : List Nat} {c c1 : RT} {re r1 : RV}
theorem qlc2 {ri : RF} {t t1 : RG} (hi : QF X tg iter ri) (hmt : MonoG t) (hmc : MonoK c) (hm1 : MonoK r1) (hmt1 : MonoG t1) (hmc1 : MonoK c1) (hme : MonoK re) (hsl : ∀ j ∈ sl, j ∈ own.map (·.2)) (hsl1 : ∀ j ∈ sl1, j ∈ vs1) :
    MonoK (rLc2 ri t c r1 t1 c1 re (own.map (·.2)) vs1) ∧ ∃ wi, PI X tg iter wi ∧ ∀ σ H Q, liftO X.K (rLc2 ri t c r1 t1 c1 re (own.map (·.2)) vs1) σ H Q → tLc2 wi (liftG X.K sl t) (liftT X.K c) (iSeq X.K (liftV X.K r1)) (liftG X.K sl1 t1) (liftT X.K c1) (liftV X.K re) (own.map (·.2)) vs1 σ H Q := by
  obtain ⟨wi, hpi, hw⟩ := hi.run
  refine ⟨fun env Q Q' f q => hi.mono _ _ _ (fun xs e ⟨I, a, b, d⟩ => ⟨I, a, b, fun acc e h => f _ _ (d acc e h)⟩) q, wi, hpi, ?_⟩
  intro σ H Q ⟨env, G, F, rep, q⟩
  refine hw σ H _ env G F _ rep q fun J xs e0 G1 H1 ⟨I, i0, i1, i2⟩ s1 rep1 wk => ?_
  intro D hD
  have hF : F D = none := let ⟨_, _, w⟩ := rep1; same_none w.fh hD
  refine ⟨fun i m H' => ∃ e G' us acc, Same G1 G' ∧ Rep X.K G' (upd F D (.lst us)) H' σ e ∧ RpAll X.K G' us acc ∧ i + m = xs.length ∧ I i acc e, ⟨xs.length, e0, G1, [], [], idS, rep1.hold hD, .nil, by omega, i0⟩, fun i m H' ⟨e, G', us, acc, sG, rp, hus, em, hI⟩ => ?_⟩
  by_cases hlt : i < xs.length
  · refine .inr ⟨wk.go i H' hlt (sG.trans rp.gh), fun H2 => ∃ e G2 us acc, Same G1 G2 ∧ Rep X.K G2 (upd F D (.lst us)) H2 σ e ∧ RpAll X.K G2 us acc ∧ I (i + 1) acc e, fun H2 ⟨e, G2, us, acc, a, b, c, d⟩ => ⟨m - 1, by omega, e, G2, us, acc, a, b, c, by omega, d⟩, fun v H'' y => ?_⟩
    obtain ⟨x, ex, eH, dx⟩ := wk.yld i H' v H'' hlt (sG.trans rp.gh) y
    subst eH
    refine ⟨_, G', _, x, rp.wipe (own.map (·.2)), rp_mono sG x dx, hmt _ _ _ _ (fun e1 z σ2 k2 l2 rep2 => ?_) (i1 i x acc e ex hI)⟩
    have hl : σ2.length = σ.length := by rw [l2, L2.wipe_length]
    have ho : ∀ j, j ∉ own.map (·.2) → σ2[j]? = σ[j]? := fun j m => by rw [k2 j (fun m2 => m (hsl j m2)), wipe_get m]
    refine ⟨wipe_out hl ho, ?_⟩
    refine liftT_of hmc rep2 z fun b e2 G2 H2 z2 s2 r2 => ite_mono (fun z3 => ?_) (fun z3 => ?_) z2
    · -- the inner walk
      refine liftV_of hm1 r2 z3 fun y e3 v1 G3 H3 z4 s3 r3 d3 => ?_
      obtain ⟨tt, a, ws, ys, rfl, g1, g2, J1, j0, j1, j2⟩ := z4.get d3
      have wk1 := walks_seq g1 g2
      have sG3 : Same G' G3 := s2.trans s3
      refine ⟨tt, a, ws, rfl, sqB_mono r3.gh g1, fun j k H' => ∃ e G4 us acc, Same G3 G4 ∧ Rep X.K G4 (upd F D (.lst us)) H' σ2 e ∧ RpAll X.K G4 us acc ∧ j + k = ys.length ∧ J1 j acc e, ⟨ys.length, e3, G3, us, acc, idS, r3, rps_mono sG3 acc hus, by omega, j0⟩, fun j k H4 ⟨e4, G4, us4, acc4, sG4, rp4, hus4, em4, hJ⟩ => ?_⟩
      by_cases hlt1 : j < ys.length
      · refine .inr ⟨wk1.go j H4 hlt1 (sG4.trans rp4.gh), fun H5 => ∃ e G5 us acc, Same G3 G5 ∧ Rep X.K G5 (upd F D (.lst us)) H5 σ2 e ∧ RpAll X.K G5 us acc ∧ J1 (j + 1) acc e, fun H5 ⟨e, G5, us, acc, a, b, c, d⟩ => ⟨k - 1, by omega, e, G5, us, acc, a, b, c, by omega, d⟩, fun v2 H5 y2 => ?_⟩
        obtain ⟨x1, ex1, eH1, dx1⟩ := wk1.yld j H4 v2 H5 hlt1 (sG4.trans rp4.gh) y2
        subst eH1
        refine ⟨_, G4, _, x1, rp4.wipe vs1, rp_mono sG4 x1 dx1, hmt1 _ _ _ _ (fun e5 z5 σ3 k3 l3 rep5 => ?_) (j1 j x1 acc4 e4 ex1 hJ)⟩
        have hl3 : σ3.length = σ2.length := by rw [l3, L2.wipe_length]
        have ho3 : ∀ j, j ∉ vs1 → σ3[j]? = σ2[j]? := fun j m => by rw [k3 j (fun m2 => m (hsl1 j m2)), wipe_get m]
        refine ⟨wipe_out hl3 ho3, ?_⟩
        exact lc_turn hmc1 hme rp4 hus4 rep5 idS hl3 ho3 z5 (fun G6 H6 us' acc' e' s6 r6 d6 j6 => ⟨e', G6, us', acc', sG4.trans s6, r6, d6, j6⟩) (fun G6 H6 us' acc' e' s6 r6 d6 j6 => ⟨e', G6, us', acc', sG4.trans s6, r6, d6, j6⟩)
      · have ej : j = ys.length := by omega
        subst ej
        have rb := rp4.back (vs := own.map (·.2)) rp (sG3.trans sG4) hl ho
        exact .inl ⟨wk1.stop H4 (sG4.trans rp4.gh), _, G4, us4, acc4, sG.trans (sG3.trans sG4), rb, hus4, j2 acc4 e4 hJ⟩
    · exact ⟨_, G2, us, acc, sG.trans s2, r2.back rp s2 hl ho, rps_mono s2 acc hus, z3⟩
  · have ei : i = xs.length := by omega
    subst ei
    exact .inl ⟨wk.stop H' (sG.trans rp.gh), i2 acc e hI _ G' H' (s1.trans sG) (rp.own hF hus)⟩
theorem qe_lc2 {ri : RF} {t t1 : RG} (hc : X.calm = true) (hN : X.N.Nodup) (hi : QF X tg iter ri) (ok : BlkOk X.N X.env.scope scope own) (hv : ∀ i ∈ vs1, i ∈ own.map (·.2) := by decide)
    (hg : ∀ (s : Shared) (H : Hp) (C : Addr) (cl : List (Str × Addr)) (fp : List Addr), QG (X.blk s H scope (compEnvC scope cl C X.env) fp) tg sl t) (ht : ∀ (s : Shared) (H : Hp) (C : Addr) (cl : List (Str × Addr)) (fp : List Addr), QTs (X.blk s H scope (compEnvC scope cl C X.env) fp) ifs c)
    (hi1 : ∀ (s : Shared) (H : Hp) (C : Addr) (cl : List (Str × Addr)) (fp : List Addr), QV (X.blk s H scope (compEnvC scope cl C X.env) fp) iter1 r1)
    (hg1 : ∀ (s : Shared) (H : Hp) (C : Addr) (cl : List (Str × Addr)) (fp : List Addr), QG (X.blk s H scope (compEnvC scope cl C X.env) fp) tg1 sl1 t1) (ht1 : ∀ (s : Shared) (H : Hp) (C : Addr) (cl : List (Str × Addr)) (fp : List Addr), QTs (X.blk s H scope (compEnvC scope cl C X.env) fp) ifs1 c1)
    (he : ∀ (s : Shared) (H : Hp) (C : Addr) (cl : List (Str × Addr)) (fp : List Addr), QV (X.blk s H scope (compEnvC scope cl C X.env) fp) elt re) (hsl : ∀ j ∈ sl, j ∈ own.map (·.2) := by decide) (hsl1 : ∀ j ∈ sl1, j ∈ vs1 := by decide) (hs : ∀ x, foldedSetIterable iter X.env x = pure x := by intro _; rfl) (hs1 : ∀ env x, foldedSetIterable iter1 env x = pure x := by intro _ _; rfl) :
    QE X (.ListComp elt [⟨tg, iter, ifs, 0⟩, ⟨tg1, iter1, ifs1, 0⟩] scope pos) (rLc2 ri t c r1 t1 c1 re (own.map (·.2)) vs1) := by
  let s0 : Shared := X.s_0
  obtain ⟨m, wi, hpi, f⟩ := qlc2 (own := own) (vs1 := vs1) hi (hg s0 X.H_0 0 [] []).mono (ht s0 X.H_0 0 [] []).mono (hi1 s0 X.H_0 0 [] []).mono (hg1 s0 X.H_0 0 [] []).mono (ht1 s0 X.H_0 0 [] []).mono (he s0 X.H_0 0 [] []).mono hsl hsl1
  exact ⟨m, pe_imp (pe_lc2 hc hN hpi ok hv (g := liftG X.K sl t) (fun s H C cl fp => (hg s H C cl fp).run) (tt := liftT X.K c) (fun s H C cl fp => (ht s H C cl fp).run)
    (wi1 := iSeq X.K (liftV X.K r1)) (fun s H C cl fp => pi_seq (hi1 s H C cl fp).run) (g1 := liftG X.K sl1 t1) (fun s H C cl fp => (hg1 s H C cl fp).run) (tt1 := liftT X.K c1) (fun s H C cl fp => (ht1 s H C cl fp).run) (te := liftV X.K re) (fun s H C cl fp => (he s H C cl fp).run) hs hs1) f⟩
/-- y = [..] -/
theorem qs_setLc2 {kp : List Nat} (i : Nat) {y : Str} {py spos : Pos} {ri : RF} {t t1 : RG} (hc : X.calm = true) (hN : X.N.Nodup) (hi : QF X tg iter ri) (ok : BlkOk X.N X.env.scope scope own) (hv : ∀ i ∈ vs1, i ∈ own.map (·.2) := by decide)
    (hg : ∀ (s : Shared) (H : Hp) (C : Addr) (cl : List (Str × Addr)) (fp : List Addr), QG (X.blk s H scope (compEnvC scope cl C X.env) fp) tg sl t) (ht : ∀ (s : Shared) (H : Hp) (C : Addr) (cl : List (Str × Addr)) (fp : List Addr), QTs (X.blk s H scope (compEnvC scope cl C X.env) fp) ifs c)
    (hi1 : ∀ (s : Shared) (H : Hp) (C : Addr) (cl : List (Str × Addr)) (fp : List Addr), QV (X.blk s H scope (compEnvC scope cl C X.env) fp) iter1 r1)
    (hg1 : ∀ (s : Shared) (H : Hp) (C : Addr) (cl : List (Str × Addr)) (fp : List Addr), QG (X.blk s H scope (compEnvC scope cl C X.env) fp) tg1 sl1 t1) (ht1 : ∀ (s : Shared) (H : Hp) (C : Addr) (cl : List (Str × Addr)) (fp : List Addr), QTs (X.blk s H scope (compEnvC scope cl C X.env) fp) ifs1 c1)
    (he : ∀ (s : Shared) (H : Hp) (C : Addr) (cl : List (Str × Addr)) (fp : List Addr), QV (X.blk s H scope (compEnvC scope cl C X.env) fp) elt re) (hk : i ∉ kp := by decide) (hsl : ∀ j ∈ sl, j ∈ own.map (·.2) := by decide) (hsl1 : ∀ j ∈ sl1, j ∈ vs1 := by decide) (hy : X.N[i]? = some y := by rfl) (hyl : X.env.scope.names.lookup y = some .local := by rfl)
    (hsw : swapsWith (.ListComp elt [⟨tg, iter, ifs, 0⟩, ⟨tg1, iter1, ifs1, 0⟩] scope pos) (some (.Name y py)) spos.line X.env = pure true := by exact sw_true rfl rfl rfl (by decide +kernel)) (hs : ∀ x, foldedSetIterable iter X.env x = pure x := by intro _; rfl) (hs1 : ∀ env x, foldedSetIterable iter1 env x = pure x := by intro _ _; rfl) :
    QS X kp (.Assign [.Name y py] (.ListComp elt [⟨tg, iter, ifs, 0⟩, ⟨tg1, iter1, ifs1, 0⟩] scope pos) spos) (rSet i (rLc2 ri t c r1 t1 c1 re (own.map (·.2)) vs1)) := by
  let s0 : Shared := X.s_0
  obtain ⟨m, wi, hpi, f⟩ := qlc2 (own := own) (vs1 := vs1) hi (hg s0 X.H_0 0 [] []).mono (ht s0 X.H_0 0 [] []).mono (hi1 s0 X.H_0 0 [] []).mono (hg1 s0 X.H_0 0 [] []).mono (ht1 s0 X.H_0 0 [] []).mono (he s0 X.H_0 0 [] []).mono hsl hsl1
  refine ⟨fun A B env l q => m _ _ _ (fun o e z => l.1 _ z) q, ps_imp (ps_setLc2 hc hN hy hyl hsw hpi ok hv (g := liftG X.K sl t) (fun s H C cl fp => (hg s H C cl fp).run) (tt := liftT X.K c) (fun s H C cl fp => (ht s H C cl fp).run)
    (wi1 := iSeq X.K (liftV X.K r1)) (fun s H C cl fp => pi_seq (hi1 s H C cl fp).run) (g1 := liftG X.K sl1 t1) (fun s H C cl fp => (hg1 s H C cl fp).run) (tt1 := liftT X.K c1) (fun s H C cl fp => (ht1 s H C cl fp).run) (te := liftV X.K re) (fun s H C cl fp => (he s H C cl fp).run) hs hs1) ?_⟩
  intro E σ H ⟨env, G, F, rep, q⟩
  exact f σ H _ (liftO_of m rep q fun o e v G' H' z s r => z _ G' H' s (keepS_set hk) (r.put i))
end
/-! ### a name whose slot is handed over -/
def rMv (k : Nat) : RE := fun env Q => match env[k]? with
  | some (some o) => Q o (env.set k none)
  | _ => False
theorem Rep.mv {K : Fg} {G F H : Hp} {σ : L2.St} {env : Pf.Env} {k : Nat} {o : O} (r : Rep K G F H σ env) (h : env[k]? = some (some o)) : ∃ v, σ[k]? = some (some v) ∧ RepV K G F H σ (env.set k none) v o := by
  obtain ⟨fp, s, w⟩ := r
  obtain ⟨fa, f1, fb, x, e1, e2, ⟨v, rfl, ro⟩, g⟩ := s.split h
  subst e1
  refine ⟨v, e2, fa ++ ([] ++ fb), f1, ?_, ro, w.perm ?_⟩
  · have := g G H (some v) none [] idS (fun _ _ => rfl) rfl
    rwa [set_self e2] at this
  · rw [List.nil_append, ← List.append_assoc, ← List.append_assoc]
    exact List.perm_append_comm.append_right fb
theorem qe_mv {X : Cx} (k : Nat) {x : Str} {pos : Pos} (hN : X.N[k]? = some x := by rfl) (hv : Vis X.env.scope x := by first | exact Or.inl rfl | exact Or.inr (Or.inl rfl) | exact Or.inr (Or.inr rfl)) (hd : (x == ("__debug__" : Str)) = false := by decide)
    (hcd : (x == ("__classdict__" : Str)) = false := by decide) : QE X (.Name x pos) (rMv k) := by
  refine ⟨fun env Q Q' f q => ?_, pe_imp (pe_var hN hv hd hcd) ?_⟩
  · unfold rMv at *
    split at q
    · exact f _ _ q
    · exact q
  intro σ H Q ⟨env, G, F, rep, q⟩
  unfold rMv at q
  split at q
  · rename_i o e
    obtain ⟨v, e2, rv⟩ := rep.mv e
    exact ⟨v, e2, q v G H idS rv⟩
  · exact q.elim
end Pf
set_option Elab.async false
set_option linter.all false
set_option maxRecDepth 100000
set_option maxHeartbeats 4000000
set_option exponentiation.threshold 10000
/-! Pf: rows and tables of fractions as data; walks and comprehensions without an invariant of one's own. -/
namespace Pf
open PySem PySem.Spec PyProof.Rows L2
def rowD (r : List Rat) : D := .list (r.map qD)
def matD (m : List (List Rat)) : D := .list (m.map rowD)
def at2 (m : List (List Rat)) (i j : Nat) : Rat := (m.getD i []).getD j 0
theorem atI_map {α : Type} {f : α → D} {xs : List α} {i : Nat} {x : α} (h : xs[i]? = some x) : atI (xs.map f) (i : Int) = some (f x) := atI_nat (by rw [List.getElem?_map, h]; rfl)
theorem atI_mem {α : Type} {xs : List α} {i : Nat} {x : α} (h : xs[i]? = some x) : atI xs (i : Int) = some x := atI_nat h
theorem ixN_nat {n i : Nat} (h : i < n) : ixN n (i : Int) = some i := by
  unfold ixN
  rw [if_pos (by omega), if_pos (by omega)]
  rfl
theorem shaped_qD (r : Rat) : SeqAt.shaped (qD r) = true := rfl
theorem eqv_qD (r s : Rat) : PyData.eqv (qD r) (qD s) = decide (r = s) := by
  have e : PyData.eqv (qD r) (qD s) = ((r.num == s.num) && ((r.den : Int) == (s.den : Int))) := by
    unfold qD
    simp [PyData.eqv, PyData.eqvAll]
  rw [e]
  by_cases h : r = s
  · subst h
    simp
  · rw [decide_eq_false h]
    by_cases h1 : r.num = s.num
    · have h2 : ¬ (r.den : Int) = (s.den : Int) := fun z => h (Rat.ext h1 (by omega))
      simp [h1, h2]
    · simp [h1]
theorem rngD_at {lo hi : Int} {i : Nat} {x : D} (h : (rngD lo hi)[i]? = some x) : x = .int (lo + (i : Nat)) ∧ i < (hi - lo).toNat := by
  have hi : i < (rngD lo hi).length := (List.getElem?_eq_some_iff.mp h).1
  rw [rngD_len] at hi
  rw [rngD_get hi] at h
  exact ⟨(Option.some.inj h).symm, hi⟩
theorem get_map {α β : Type} {f : α → β} {xs : List α} {i : Nat} {y : β} (h : (xs.map f)[i]? = some y) : ∃ x, xs[i]? = some x ∧ y = f x := by
  rw [List.getElem?_map] at h
  obtain ⟨x, e1, e2⟩ := Option.map_eq_some_iff.mp h
  exact ⟨x, e1, e2.symm⟩
theorem fit_mul {k l : Nat} {r s : Rat} (hr : Fit k r) (hs : Fit l s) : Fit (k + l) (r * s) := by
  rw [← mul_as]
  refine fit_divInt (den_ne r s) ?_ ?_
  · rw [Int.natAbs_mul]
    exact mul_lt hr.1 hs.1
  · rw [Int.natAbs_mul]
    exact mul_lt hr.2 hs.2
theorem small64 {n : Nat} (h : n ≤ 1000) : n < sizeLine := by rw [sizeLine_eq]; omega
/-- [f(x) for x in xs] in an environment that stays -/
theorem lc_map {t : RG} {re : RV} {vs : List Nat} {xs ys : List D} {e : Env} {W : List D → Env → Prop} (hl : xs.length = ys.length) (hz : xs.length ≤ 1000) (step : ∀ (i : Nat) (x y : D) (k : D → Env → Prop), xs[i]? = some x → ys[i]? = some y → (∀ e3, backE e e3 vs = e → k y e3) → t x (wipeE e vs) fun e1 => re e1 k) (q : W ys e) :
    ∃ I : Nat → List D → Env → Prop, I 0 [] e ∧ (∀ i x acc e', xs[i]? = some x → I i acc e' → t x (wipeE e' vs) fun e1 => rYes e1 fun b e2 => if b = true then re e2 fun y e3 => acc.length < sizeLine ∧ I (i + 1) (acc ++ [y]) (backE e' e3 vs) else I (i + 1) acc (backE e' e2 vs)) ∧ ∀ acc e', I xs.length acc e' → W acc e' := by
  refine ⟨fun i acc e' => e' = e ∧ acc = ys.take i, ⟨rfl, rfl⟩, fun i x acc e' hx ⟨e1, e2⟩ => ?_, fun acc e' ⟨e1, e2⟩ => ?_⟩
  · subst e1 e2
    have hi := (List.getElem?_eq_some_iff.mp hx).1
    have hy : ys[i]? = some (ys[i]'(by omega)) := List.getElem?_eq_getElem _
    refine step i x _ _ hx hy fun e3 h3 => ⟨?_, h3, ?_⟩
    · rw [List.length_take]
      exact small64 (by omega)
    · rw [List.take_add_one, hy]
      rfl
  · subst e1 e2
    rw [hl, List.take_length]
    exact q
/-- the same over pairs -/
theorem lcT_map {n : Nat} {ts : RGs} {re : RV} {vs : List Nat} {xss : List (List D)} {ys : List D} {e : Env} {W : List D → Env → Prop} (hl : xss.length = ys.length) (hz : xss.length ≤ 1000) (step : ∀ (i : Nat) (xs : List D) (y : D) (k : D → Env → Prop), xss[i]? = some xs → ys[i]? = some y → (∀ e3, backE e e3 vs = e → k y e3) → xs.length = n ∧ ts xs (wipeE e vs) fun e1 => re e1 k) (q : W ys e) :
    ∃ I : Nat → List D → Env → Prop, I 0 [] e ∧ (∀ i xs acc e', xss[i]? = some xs → I i acc e' → xs.length = n ∧ ts xs (wipeE e' vs) fun e1 => rYes e1 fun b e2 => if b = true then re e2 fun y e3 => acc.length < sizeLine ∧ I (i + 1) (acc ++ [y]) (backE e' e3 vs) else I (i + 1) acc (backE e' e2 vs)) ∧ ∀ acc e', I xss.length acc e' → W acc e' := by
  refine ⟨fun i acc e' => e' = e ∧ acc = ys.take i, ⟨rfl, rfl⟩, fun i x acc e' hx ⟨e1, e2⟩ => ?_, fun acc e' ⟨e1, e2⟩ => ?_⟩
  · subst e1 e2
    have hi := (List.getElem?_eq_some_iff.mp hx).1
    have hy : ys[i]? = some (ys[i]'(by omega)) := List.getElem?_eq_getElem _
    refine step i x _ _ hx hy fun e3 h3 => ⟨?_, h3, ?_⟩
    · rw [List.length_take]
      exact small64 (by omega)
    · rw [List.take_add_one, hy]
      rfl
  · subst e1 e2
    rw [hl, List.take_length]
    exact q
theorem zipD_at {α β : Type} {f : α → D} {g : β → D} {xs : List α} {ys : List β} {i : Nat} {z : List D} (h : (zipD (xs.map f) (ys.map g))[i]? = some z) : ∃ x y, xs[i]? = some x ∧ ys[i]? = some y ∧ z = [f x, g y] := by
  unfold zipD at h
  rw [List.getElem?_zipWith, List.getElem?_map, List.getElem?_map] at h
  cases hx : xs[i]? with
  | none => rw [hx] at h; simp at h
  | some x =>
    cases hy : ys[i]? with
    | none => rw [hx, hy] at h; simp at h
    | some y =>
      rw [hx, hy] at h
      exact ⟨x, y, rfl, rfl, (Option.some.inj h).symm⟩
theorem zipD_len {α β : Type} {f : α → D} {g : β → D} {xs : List α} {ys : List β} : (zipD (xs.map f) (ys.map g)).length = min xs.length ys.length := by
  unfold zipD
  rw [List.length_zipWith, List.length_map, List.length_map]
end Pf
set_option Elab.async false
set_option linter.all false
set_option maxRecDepth 100000
set_option maxHeartbeats 4000000
/-! Pf: the elimination, plainly. -/
namespace Pf
def clearRow (row lead : List Rat) (col : Nat) : List Rat := List.zipWith (fun a b => a - row.getD col 0 * b) row lead
def findLead (m : List (List Rat)) (d c : Nat) : Option Nat := (List.range m.length).find? fun i => decide (d ≤ i ∧ at2 m i c ≠ 0)
def swapDiv (m : List (List Rat)) (d i c : Nat) : List (List Rat) := ((m.set d (m.getD i [])).set i (m.getD d [])).set d ((m.getD i []).map (· / at2 m i c))
def clearTo (m : List (List Rat)) (d c t : Nat) : List (List Rat) := m.mapIdx fun j r => if j < t ∧ j ≠ d then clearRow r (m.getD d []) c else r
def elim (m : List (List Rat)) (d i c : Nat) : List (List Rat) := clearTo (swapDiv m d i c) d c m.length
def redStep (st : List (List Rat) × List Nat) (c : Nat) : List (List Rat) × List Nat := match findLead st.1 st.2.length c with
  | none => st
  | some i => (elim st.1 st.2.length i c, st.2 ++ [c])
def redAll (m : List (List Rat)) (cols : List Nat) : List (List Rat) × List Nat := cols.foldl redStep (m, [])
theorem findLead_some {m : List (List Rat)} {d c i : Nat} (h1 : d ≤ i) (h2 : i < m.length) (h3 : at2 m i c ≠ 0) (h4 : ∀ j, d ≤ j → j < i → at2 m j c = 0) : findLead m d c = some i := by
  unfold findLead
  rw [List.find?_eq_some_iff_getElem]
  refine ⟨by simp [h1, h3], i, by simpa using h2, by simp, fun j hj => ?_⟩
  simp only [List.getElem_range, Bool.not_eq_true', decide_eq_false_iff_not, not_and, Classical.not_not]
  exact fun h => h4 j h hj
theorem findLead_none {m : List (List Rat)} {d c : Nat} (h : ∀ j, d ≤ j → j < m.length → at2 m j c = 0) : findLead m d c = none := by
  unfold findLead
  rw [List.find?_eq_none]
  intro j hj
  rw [List.mem_range] at hj
  simp only [decide_eq_true_eq, not_and, Classical.not_not]
  exact fun h1 => h j h1 hj
theorem findLead_spec {m : List (List Rat)} {d c i : Nat} (h : findLead m d c = some i) : d ≤ i ∧ i < m.length ∧ at2 m i c ≠ 0 ∧ ∀ j, d ≤ j → j < i → at2 m j c = 0 := by
  unfold findLead at h
  rw [List.find?_eq_some_iff_getElem] at h
  obtain ⟨h1, j, hj, e, h2⟩ := h
  rw [List.getElem_range] at e
  subst e
  simp only [decide_eq_true_eq] at h1
  refine ⟨h1.1, by simpa using hj, h1.2, fun k h3 h4 => ?_⟩
  have := h2 k h4
  simp only [List.getElem_range, Bool.not_eq_true', decide_eq_false_iff_not, not_and, Classical.not_not] at this
  exact this h3
theorem redAll_succ (m : List (List Rat)) (cols : List Nat) (j c : Nat) (h : cols[j]? = some c) : redAll m (cols.take (j + 1)) = redStep (redAll m (cols.take j)) c := by
  unfold redAll
  rw [List.take_add_one, h, List.foldl_append]
  rfl
theorem swapDiv_len (m : List (List Rat)) (d i c : Nat) : (swapDiv m d i c).length = m.length := by simp [swapDiv]
theorem clearTo_len (m : List (List Rat)) (d c t : Nat) : (clearTo m d c t).length = m.length := by simp [clearTo]
theorem elim_len (m : List (List Rat)) (d i c : Nat) : (elim m d i c).length = m.length := by simp [elim, clearTo_len, swapDiv_len]
theorem clearTo_get {m : List (List Rat)} {d c t j : Nat} {r : List Rat} (h : m[j]? = some r) : (clearTo m d c t)[j]? = some (if j < t ∧ j ≠ d then clearRow r (m.getD d []) c else r) := by
  unfold clearTo
  rw [List.getElem?_mapIdx, h]
  rfl
theorem clearTo_zero (m : List (List Rat)) (d c : Nat) : clearTo m d c 0 = m := by
  refine List.ext_getElem? fun j => ?_
  cases h : m[j]? with
  | none =>
    rw [List.getElem?_eq_none_iff] at h ⊢
    rw [clearTo_len]
    exact h
  | some r => rw [clearTo_get h, if_neg (by omega)]
theorem clearTo_skip {m : List (List Rat)} {d c t : Nat} (h : t = d) : clearTo m d c (t + 1) = clearTo m d c t := by
  unfold clearTo
  congr 1
  funext j r
  by_cases h1 : j < t ∧ j ≠ d
  · rw [if_pos h1, if_pos (by omega)]
  · rw [if_neg h1, if_neg (by omega)]
theorem clearTo_next {m : List (List Rat)} {d c t : Nat} {r : List Rat} (h : t ≠ d) (hr : m[t]? = some r) : clearTo m d c (t + 1) = (clearTo m d c t).set t (clearRow r (m.getD d []) c) := by
  refine List.ext_getElem? fun j => ?_
  by_cases hj : j = t
  · subst hj
    rw [clearTo_get hr, List.getElem?_set_self (by rw [clearTo_len]; exact (List.getElem?_eq_some_iff.mp hr).1), if_pos (by omega)]
  · rw [List.getElem?_set_ne (fun z => hj z.symm)]
    cases e : m[j]? with
    | none =>
      rw [List.getElem?_eq_none_iff] at e
      rw [List.getElem?_eq_none_iff.mpr (by rw [clearTo_len]; exact e), List.getElem?_eq_none_iff.mpr (by rw [clearTo_len]; exact e)]
    | some q =>
      rw [clearTo_get e, clearTo_get e]
      by_cases h1 : j < t ∧ j ≠ d
      · rw [if_pos h1, if_pos (by omega)]
      · rw [if_neg h1, if_neg (by omega)]
/-- all rows are w wide -/
def Wide (w : Nat) (m : List (List Rat)) : Prop := ∀ r ∈ m, r.length = w
theorem Wide.get {w : Nat} {m : List (List Rat)} (h : Wide w m) {i : Nat} {r : List Rat} (e : m[i]? = some r) : r.length = w := h r (List.mem_of_getElem? e)
theorem wide_of {w : Nat} {m : List (List Rat)} (h : ∀ (i : Nat) (r : List Rat), m[i]? = some r → r.length = w) : Wide w m := fun r hr => by
  obtain ⟨i, hi, e⟩ := List.getElem_of_mem hr
  exact h i r (by rw [← e]; exact List.getElem?_eq_getElem hi)
theorem getD_of {m : List (List Rat)} {i : Nat} {r : List Rat} (h : m[i]? = some r) : m.getD i [] = r := by rw [List.getD_eq_getElem?_getD, h]; rfl
theorem Wide.set {w : Nat} {m : List (List Rat)} (h : Wide w m) {i : Nat} {r : List Rat} (e : r.length = w) : Wide w (m.set i r) := fun q hq => by
  rcases List.mem_or_eq_of_mem_set hq with hq | hq
  · exact h q hq
  · rw [hq]; exact e
theorem Wide.getD {w : Nat} {m : List (List Rat)} (h : Wide w m) {i : Nat} (hi : i < m.length) : (m.getD i []).length = w := by
  have e : m[i]? = some m[i] := List.getElem?_eq_getElem hi
  rw [getD_of e]
  exact h.get e
theorem Wide.swapDiv {w : Nat} {m : List (List Rat)} (h : Wide w m) {d i c : Nat} (hd : d < m.length) (hi : i < m.length) : Wide w (swapDiv m d i c) :=
  ((h.set (h.getD hi)).set (h.getD hd)).set (by rw [List.length_map]; exact h.getD hi)
theorem clearRow_len {row lead : List Rat} {col : Nat} (hl : row.length = lead.length) : (clearRow row lead col).length = row.length := by
  unfold clearRow
  rw [List.length_zipWith]
  omega
theorem Wide.clearTo {w : Nat} {m : List (List Rat)} (h : Wide w m) {d c t : Nat} (hd : d < m.length) : Wide w (clearTo m d c t) := wide_of fun i r e => by
  have hi : i < m.length := by
    have := (List.getElem?_eq_some_iff.mp e).1
    rwa [clearTo_len] at this
  have e2 : m[i]? = some m[i] := List.getElem?_eq_getElem hi
  rw [clearTo_get e2] at e
  cases e
  split
  · rw [clearRow_len (by rw [h.get e2, h.getD hd])]
    exact h.get e2
  · exact h.get e2
theorem Wide.elim {w : Nat} {m : List (List Rat)} (h : Wide w m) {d i c : Nat} (hd : d < m.length) (hi : i < m.length) : Wide w (elim m d i c) := (h.swapDiv hd hi).clearTo (by rw [swapDiv_len]; exact hd)
/-- the state after some columns -/
structure RedOk (w n : Nat) (st : List (List Rat) × List Nat) : Prop where
  wide : Wide w st.1
  len : st.1.length = n
  few : st.2.length ≤ n
theorem redStep_ok {w n : Nat} {st : List (List Rat) × List Nat} (h : RedOk w n st) (c : Nat) : RedOk w n (redStep st c) := by
  unfold redStep
  split
  · exact h
  · rename_i i e
    obtain ⟨h1, h2, _, _⟩ := findLead_spec e
    exact ⟨h.wide.elim (by omega) h2, by rw [elim_len]; exact h.len, by rw [List.length_append, List.length_singleton]; have := h.len; omega⟩
theorem redAll_ok {w n : Nat} : ∀ (cols : List Nat) {st : List (List Rat) × List Nat}, RedOk w n st → RedOk w n (cols.foldl redStep st)
  | [], _, h => h
  | c :: cols, _, h => redAll_ok cols (redStep_ok h c)
end Pf
set_option Elab.async false
set_option linter.all false
set_option maxRecDepth 100000
set_option maxHeartbeats 4000000
set_option exponentiation.threshold 10000
/-! Pf: comprehensions with a test; sums of a book as data; what a row is brought to. -/
namespace Pf
open PySem PySem.Spec PyProof.Rows L2
theorem lc_filter {t : RG} {c : RT} {re : RV} {vs : List Nat} {xs : List D} {p : D → Bool} {g : D → D} {e : Env} {W : List D → Env → Prop} (hz : xs.length ≤ 1000)
    (step : ∀ (i : Nat) (x : D) (k1 : D → Env → Prop) (k2 : Env → Prop), xs[i]? = some x → (p x = true → ∀ e3, backE e e3 vs = e → k1 (g x) e3) → (p x = false → ∀ e2, backE e e2 vs = e → k2 e2) → t x (wipeE e vs) fun e1 => c e1 fun b e2 => if b = true then re e2 k1 else k2 e2)
    (q : W ((xs.filter p).map g) e) :
    ∃ I : Nat → List D → Env → Prop, I 0 [] e ∧ (∀ i x acc e', xs[i]? = some x → I i acc e' → t x (wipeE e' vs) fun e1 => c e1 fun b e2 => if b = true then re e2 fun y e3 => acc.length < sizeLine ∧ I (i + 1) (acc ++ [y]) (backE e' e3 vs) else I (i + 1) acc (backE e' e2 vs)) ∧ ∀ acc e', I xs.length acc e' → W acc e' := by
  refine ⟨fun i acc e' => e' = e ∧ acc = ((xs.take i).filter p).map g, ⟨rfl, rfl⟩, fun i x acc e' hx ⟨e1, e2⟩ => ?_, fun acc e' ⟨e1, e2⟩ => ?_⟩
  · subst e1 e2
    refine step i x _ _ hx (fun hp e3 h3 => ⟨?_, h3, ?_⟩) (fun hp e2 h2 => ⟨h2, ?_⟩)
    · rw [List.length_map]
      refine Nat.lt_of_le_of_lt (Nat.le_trans (List.length_filter_le _ _) (List.length_take_le' _ _)) (small64 hz)
    · rw [List.take_add_one, hx, List.filter_append, List.map_append]
      simp [hp]
    · rw [List.take_add_one, hx, List.filter_append, List.map_append]
      simp [hp]
  · subst e1 e2
    rw [List.take_length]
    exact q
/-- the same where the environment is told by a predicate -/
theorem lc_mapE {t : RG} {re : RV} {vs : List Nat} {xs ys : List D} {e : Env} {W : List D → Env → Prop} (E : Env → Prop) (he : E e) (hl : xs.length = ys.length) (hz : xs.length ≤ 1000) (step : ∀ (i : Nat) (x y : D) (k : D → Env → Prop) (e' : Env), E e' → xs[i]? = some x → ys[i]? = some y → (∀ e3, E (backE e' e3 vs) → k y e3) → t x (wipeE e' vs) fun e1 => re e1 k)
    (q : ∀ e', E e' → W ys e') :
    ∃ I : Nat → List D → Env → Prop, I 0 [] e ∧ (∀ i x acc e', xs[i]? = some x → I i acc e' → t x (wipeE e' vs) fun e1 => rYes e1 fun b e2 => if b = true then re e2 fun y e3 => acc.length < sizeLine ∧ I (i + 1) (acc ++ [y]) (backE e' e3 vs) else I (i + 1) acc (backE e' e2 vs)) ∧ ∀ acc e', I xs.length acc e' → W acc e' := by
  refine ⟨fun i acc e' => E e' ∧ acc = ys.take i, ⟨he, rfl⟩, fun i x acc e' hx ⟨e1, e2⟩ => ?_, fun acc e' ⟨e1, e2⟩ => ?_⟩
  · subst e2
    have hi := (List.getElem?_eq_some_iff.mp hx).1
    have hy : ys[i]? = some (ys[i]'(by omega)) := List.getElem?_eq_getElem _
    refine step i x _ _ e' e1 hx hy fun e3 h3 => ⟨?_, h3, ?_⟩
    · rw [List.length_take]
      exact small64 (by omega)
    · rw [List.take_add_one, hy]
      rfl
  · subst e2
    rw [hl, List.take_length]
    exact q e' e1
theorem lcT_mapE {n : Nat} {ts : RGs} {re : RV} {vs : List Nat} {xss : List (List D)} {ys : List D} {e : Env} {W : List D → Env → Prop} (E : Env → Prop) (he : E e) (hl : xss.length = ys.length) (hz : xss.length ≤ 1000)
    (step : ∀ (i : Nat) (xs : List D) (y : D) (k : D → Env → Prop) (e' : Env), E e' → xss[i]? = some xs → ys[i]? = some y → (∀ e3, E (backE e' e3 vs) → k y e3) → xs.length = n ∧ ts xs (wipeE e' vs) fun e1 => re e1 k) (q : ∀ e', E e' → W ys e') :
    ∃ I : Nat → List D → Env → Prop, I 0 [] e ∧ (∀ i xs acc e', xss[i]? = some xs → I i acc e' → xs.length = n ∧ ts xs (wipeE e' vs) fun e1 => rYes e1 fun b e2 => if b = true then re e2 fun y e3 => acc.length < sizeLine ∧ I (i + 1) (acc ++ [y]) (backE e' e3 vs) else I (i + 1) acc (backE e' e2 vs)) ∧ ∀ acc e', I xss.length acc e' → W acc e' := by
  refine ⟨fun i acc e' => E e' ∧ acc = ys.take i, ⟨he, rfl⟩, fun i x acc e' hx ⟨e1, e2⟩ => ?_, fun acc e' ⟨e1, e2⟩ => ?_⟩
  · subst e2
    have hi := (List.getElem?_eq_some_iff.mp hx).1
    have hy : ys[i]? = some (ys[i]'(by omega)) := List.getElem?_eq_getElem _
    refine step i x _ _ e' e1 hx hy fun e3 h3 => ⟨?_, h3, ?_⟩
    · rw [List.length_take]
      exact small64 (by omega)
    · rw [List.take_add_one, hy]
      rfl
  · subst e2
    rw [hl, List.take_length]
    exact q e' e1
theorem lc_filterE {t : RG} {c : RT} {re : RV} {vs : List Nat} {xs : List D} {p : D → Bool} {g : D → D} {e : Env} {W : List D → Env → Prop} (E : Env → Prop) (he : E e) (hz : xs.length ≤ 1000)
    (step : ∀ (i : Nat) (x : D) (k1 : D → Env → Prop) (k2 : Env → Prop) (e' : Env), E e' → xs[i]? = some x → (p x = true → ∀ e3, E (backE e' e3 vs) → k1 (g x) e3) → (p x = false → ∀ e2, E (backE e' e2 vs) → k2 e2) → t x (wipeE e' vs) fun e1 => c e1 fun b e2 => if b = true then re e2 k1 else k2 e2)
    (q : ∀ e', E e' → W ((xs.filter p).map g) e') :
    ∃ I : Nat → List D → Env → Prop, I 0 [] e ∧ (∀ i x acc e', xs[i]? = some x → I i acc e' → t x (wipeE e' vs) fun e1 => c e1 fun b e2 => if b = true then re e2 fun y e3 => acc.length < sizeLine ∧ I (i + 1) (acc ++ [y]) (backE e' e3 vs) else I (i + 1) acc (backE e' e2 vs)) ∧ ∀ acc e', I xs.length acc e' → W acc e' := by
  refine ⟨fun i acc e' => E e' ∧ acc = ((xs.take i).filter p).map g, ⟨he, rfl⟩, fun i x acc e' hx ⟨e1, e2⟩ => ?_, fun acc e' ⟨e1, e2⟩ => ?_⟩
  · subst e2
    refine step i x _ _ e' e1 hx (fun hp e3 h3 => ⟨?_, h3, ?_⟩) (fun hp e2 h2 => ⟨h2, ?_⟩)
    · rw [List.length_map]
      refine Nat.lt_of_le_of_lt (Nat.le_trans (List.length_filter_le _ _) (List.length_take_le' _ _)) (small64 hz)
    · rw [List.take_add_one, hx, List.filter_append, List.map_append]
      simp [hp]
    · rw [List.take_add_one, hx, List.filter_append, List.map_append]
      simp [hp]
  · subst e2
    rw [List.take_length]
    exact q e' e1
/-- a sum of a book: its parts, its due -/
abbrev Sm := List Int × Rat
def zD (ns : List Int) : List D := ns.map PyData.int
def sumD (s : Sm) : D := .tuple [.tuple (zD s.1), qD s.2]
def sumsD (rows : List Sm) : D := .tuple (rows.map sumD)
def bookD (ns : List Str) (rows : List Sm) : D := .tuple [.tuple (ns.map PyData.str), sumsD rows]
/-- what a row is brought to -/
def lcmDen (row : List Rat) : Nat := row.foldl (fun l x => Nat.lcm l x.den) 1
def scaleRow (row : List Rat) : List Int := row.map fun x => Int.fdiv (lcmDen row) x.den * x.num
def gcdAll (ns : List Int) : Nat := ns.foldl (fun g x => Nat.gcd g x.natAbs) 0
def firstNZ (ns : List Int) : Int := (ns.filter fun n => decide (n ≠ 0)).headD 0
def sgnGcd (ns : List Int) : Int := if firstNZ ns < 0 then -(gcdAll ns : Int) else (gcdAll ns : Int)
def normInts (row : List Rat) : List Int := (scaleRow row).map fun n => Int.fdiv n (sgnGcd (scaleRow row))
def normRow (row : List Rat) (due : Rat) : Sm := (normInts row, due * Rat.divInt (lcmDen row) (sgnGcd (scaleRow row)))
theorem foldl_take {α β : Type} (f : β → α → β) (b : β) (xs : List α) (j : Nat) (x : α) (h : xs[j]? = some x) : (xs.take (j + 1)).foldl f b = f ((xs.take j).foldl f b) x := by
  rw [List.take_add_one, h, List.foldl_append]
  rfl
theorem cut_last {α : Type} (xs : List α) (y : α) : cut (xs ++ [y]) none (some (-1)) = xs := by
  show ((xs ++ [y]).drop 0).take ((if (-1 : Int) < 0 then ((-1 : Int) + ((xs ++ [y]).length : Nat)).toNat else min (-1 : Int).toNat (xs ++ [y]).length) - 0) = xs
  have e : ((-1 : Int) + ((xs ++ [y]).length : Nat)).toNat = xs.length := by
    rw [List.length_append, List.length_singleton]
    omega
  rw [if_pos (by decide), e, List.drop_zero, Nat.sub_zero, List.take_left]
theorem atI_neg1 {α : Type} (xs : List α) (y : α) : atI (xs ++ [y]) (-1) = some y := by
  unfold atI ixN
  have e : ((-1 : Int) + ((xs ++ [y]).length : Nat)).toNat = xs.length := by
    rw [List.length_append, List.length_singleton]
    omega
  rw [if_neg (by decide), if_pos (by rw [List.length_append, List.length_singleton]; omega), e]
  show (xs ++ [y])[xs.length]? = some y
  simp
theorem cut_take {α : Type} (xs : List α) (j : Nat) : cut xs none (some (j : Int)) = xs.take j := by
  unfold cut
  rw [HT.sIx_nat, HT.sIx_none, List.drop_zero, Nat.sub_zero]
  by_cases h : j ≤ xs.length
  · rw [Nat.min_eq_left h]
  · rw [Nat.min_eq_right (by omega), List.take_length, List.take_of_length_le (by omega)]
theorem cut_drop {α : Type} (xs : List α) (j : Nat) : cut xs (some (j : Int)) none = xs.drop j := by
  unfold cut
  rw [HT.sIx_nat, HT.sIx_none]
  by_cases h : j ≤ xs.length
  · rw [Nat.min_eq_left h, List.take_of_length_le (by rw [List.length_drop]; omega)]
  · rw [Nat.min_eq_right (by omega), List.drop_of_length_le (by omega), List.drop_of_length_le (by omega)]
    simp
end Pf
set_option Elab.async false
set_option linter.all false
set_option maxRecDepth 100000
set_option maxHeartbeats 4000000
set_option exponentiation.threshold 10000
/-! Pf: the plane of a book, plainly. -/
namespace Pf
open PySem PySem.Spec PyProof.Rows L2
def natD (ns : List Nat) : List D := ns.map fun n => .int (n : Nat)
def augRow (s : Sm) : List Rat := s.1.map (fun i : Int => (i : Rat)) ++ [s.2]
def augM (rows : List Sm) : List (List Rat) := rows.map augRow
def red (n : Nat) (rows : List Sm) : List (List Rat) × List Nat := redAll (augM rows) (List.range n)
def moveP (M : List (List Rat)) (ls : List Nat) (n c : Nat) : List Rat := (List.zip M ls).foldl (fun v p => v.set p.2 (0 - p.1.getD c 0)) ((List.replicate n (0 : Rat)).set c 1)
def freeP (ls : List Nat) (n : Nat) : List Nat := (List.range n).filter fun c => decide (c ∉ ls)
def movesP (M : List (List Rat)) (ls : List Nat) (n : Nat) : List (List Rat) := (freeP ls n).map (moveP M ls n)
def worldP (M : List (List Rat)) (ls : List Nat) (n : Nat) : List Rat := (List.zip M ls).foldl (fun v p => v.set p.2 (p.1.getD n 0)) (List.replicate n 0)
def voidB (n : Nat) (rows : List Sm) : Bool := ((red n rows).1.drop (red n rows).2.length).any fun r => decide (r.getD n 0 ≠ 0)
def tupQs (v : List Rat) : D := .tuple (v.map qD)
def planeD (n : Nat) (rows : List Sm) : D := if voidB n rows then .none else .tuple [tupQs (worldP (red n rows).1 (red n rows).2 n), .list ((movesP (red n rows).1 (red n rows).2 n).map rowD)]
def aWorldD (n : Nat) (rows : List Sm) : D := if voidB n rows then .none else tupQs (worldP (red n rows).1 (red n rows).2 n)
/-- what the program needs of a book -/
structure BookOk (n k : Nat) (rows : List Sm) : Prop where
  few : rows.length ≤ 400
  n2 : 2 ≤ n
  n4 : n ≤ 400
  wide : ∀ s ∈ rows, s.1.length = n
  kk : 3 * k ≤ 9000
  fit : ∀ j, ∀ r ∈ (redAll (augM rows) ((List.range n).take j)).1, ∀ x ∈ r, Fit k x
theorem aug_wide {n : Nat} {rows : List Sm} (h : ∀ s ∈ rows, s.1.length = n) : Wide (n + 1) (augM rows) := fun r hr => by
  obtain ⟨s, hs, rfl⟩ := List.mem_map.mp hr
  unfold augRow
  rw [List.length_append, List.length_map, h s hs]
  rfl
theorem redStep_lt {w : Nat} {st : List (List Rat) × List Nat} {c : Nat} (h : ∀ x ∈ st.2, x < w) (hc : c < w) : ∀ x ∈ (redStep st c).2, x < w := by
  unfold redStep
  split
  · exact h
  · intro x hx
    rcases List.mem_append.mp hx with hx | hx
    · exact h x hx
    · rw [List.mem_singleton.mp hx]; exact hc
theorem redAll_lt {w : Nat} : ∀ (cols : List Nat) {st : List (List Rat) × List Nat}, (∀ x ∈ st.2, x < w) → (∀ c ∈ cols, c < w) → ∀ x ∈ (cols.foldl redStep st).2, x < w
  | [], _, h, _ => h
  | c :: cols, _, h, hc => redAll_lt cols (redStep_lt h (hc c List.mem_cons_self)) fun d hd => hc d (List.mem_cons_of_mem _ hd)
theorem red_ok {n k : Nat} {rows : List Sm} (h : BookOk n k rows) : RedOk (n + 1) rows.length (red n rows) :=
  redAll_ok _ ⟨aug_wide h.wide, List.length_map _, Nat.zero_le _⟩
theorem red_lt (n : Nat) (rows : List Sm) : ∀ x ∈ (red n rows).2, x < n := redAll_lt _ (by simp) fun c hc => List.mem_range.mp hc
theorem red_fit {n k : Nat} {rows : List Sm} (h : BookOk n k rows) : ∀ r ∈ (red n rows).1, ∀ x ∈ r, Fit k x := by
  have := h.fit n
  rw [List.take_of_length_le (by rw [List.length_range]; exact Nat.le_refl _)] at this
  exact this
theorem inD_nat (i : Nat) (ls : List Nat) : inD (.int (i : Nat)) (natD ls) = decide (i ∈ ls) := by
  unfold inD natD
  rw [List.any_map]
  by_cases h : i ∈ ls
  · rw [decide_eq_true h, List.any_eq_true]
    exact ⟨i, h, by show (((i : Nat) : Int) == ((i : Nat) : Int)) = true; simp⟩
  · rw [decide_eq_false h, List.any_eq_false]
    intro j hj
    show ¬ (((j : Nat) : Int) == ((i : Nat) : Int)) = true
    intro z
    have : (j : Int) = (i : Int) := by simpa using z
    have : j = i := by omega
    exact h (this ▸ hj)
theorem flat_nat (ls : List Nat) : (natD ls).all flatD = true := by
  unfold natD
  rw [List.all_map]
  exact List.all_eq_true.mpr fun _ _ => rfl
theorem rngD_nat (n : Nat) : rngD 0 (n : Int) = natD (List.range n) := by
  unfold rngD natD
  rw [show (((n : Int) - 0).toNat) = n by omega]
  refine List.map_congr_left fun i _ => ?_
  rw [Int.zero_add]
theorem natD_len (ls : List Nat) : (natD ls).length = ls.length := List.length_map _
theorem enumD_at {α : Type} {f : α → D} {xs : List α} {i : Nat} {z : List D} (h : (enumD (xs.map f))[i]? = some z) : ∃ x, xs[i]? = some x ∧ z = [.int (i : Nat), f x] := by
  unfold enumD at h
  rw [List.getElem?_mapIdx, List.getElem?_map] at h
  cases hx : xs[i]? with
  | none => rw [hx] at h; simp at h
  | some x =>
    rw [hx] at h
    exact ⟨x, rfl, (Option.some.inj h).symm⟩
theorem rep_flat {α : Type} (n : Nat) (x : α) : (List.replicate n [x]).flatten = List.replicate n x := by
  induction n with
  | zero => rfl
  | succ n ih => rw [List.replicate_succ, List.flatten_cons, ih]; rfl
theorem zip_take_succ {α β γ : Type} (f : γ → α × β → γ) (a : γ) (xs : List α) (ys : List β) (j : Nat) (x : α) (y : β) (h : xs[j]? = some x) (h' : ys[j]? = some y) : ((List.zip xs ys).take (j + 1)).foldl f a = f (((List.zip xs ys).take j).foldl f a) (x, y) :=
  foldl_take f a _ j (x, y) (by rw [List.getElem?_zip_eq_some]; exact ⟨h, h'⟩)
theorem set_fold_len {α : Type} (g : α → Nat) (w : α → Rat) : ∀ (l : List α) (v : List Rat), (l.foldl (fun v p => v.set (g p) (w p)) v).length = v.length
  | [], _ => rfl
  | p :: l, v => by rw [List.foldl_cons, set_fold_len g w l, List.length_set]
theorem worldP_len (M : List (List Rat)) (ls : List Nat) (n : Nat) : (worldP M ls n).length = n := by
  unfold worldP
  rw [set_fold_len (fun p : List Rat × Nat => p.2) (fun p => p.1.getD n 0), List.length_replicate]
theorem moveP_len (M : List (List Rat)) (ls : List Nat) (n c : Nat) : (moveP M ls n c).length = n := by
  unfold moveP
  rw [set_fold_len (fun p : List Rat × Nat => p.2) (fun p => 0 - p.1.getD c 0), List.length_set, List.length_replicate]
end Pf
set_option Elab.async false
set_option linter.all false
set_option maxRecDepth 100000
set_option maxHeartbeats 4000000
set_option exponentiation.threshold 10000
/-! Pf: data without dicts, and how much of it. -/
namespace Pf
open PySem PySem.Spec PyProof.Rows L2
mutual
/-- no dict within; texts that can be laid -/
inductive Pln : D → Nat → Prop
  | non : Pln .none 1
  | bl (b : Bool) : Pln (.bool b) 1
  | int (i : Int) : Pln (.int i) 1
  | str (x : Str) : SeqAt.shaped (.str x) = true → Pln (.str x) 1
  | lst {xs : List D} {n : Nat} : PlnAll xs n → Pln (.list xs) (n + 1)
  | tup {xs : List D} {n : Nat} : PlnAll xs n → Pln (.tuple xs) (n + 1)
inductive PlnAll : List D → Nat → Prop
  | nil : PlnAll [] 0
  | cons {x : D} {xs : List D} {n m : Nat} : Pln x n → PlnAll xs m → PlnAll (x :: xs) (n + m)
end
theorem Pln.pos : ∀ {x : D} {n : Nat}, Pln x n → 0 < n
  | _, _, .non => Nat.one_pos
  | _, _, .bl _ => Nat.one_pos
  | _, _, .int _ => Nat.one_pos
  | _, _, .str _ _ => Nat.one_pos
  | _, _, .lst _ => Nat.succ_pos _
  | _, _, .tup _ => Nat.succ_pos _
theorem PlnAll.len : ∀ {xs : List D} {n : Nat}, PlnAll xs n → xs.length ≤ n
  | _, _, .nil => Nat.le_refl _
  | _, _, .cons h t => by
    have := h.pos
    have := t.len
    rw [List.length_cons]
    omega
theorem PlnAll.append : ∀ {xs ys : List D} {n m : Nat}, PlnAll xs n → PlnAll ys m → PlnAll (xs ++ ys) (n + m)
  | _, _, _, _, .nil, h => by rw [Nat.zero_add]; exact h
  | _, _, _, _, .cons a t, h => by
    rw [Nat.add_assoc]
    exact .cons a (t.append h)
theorem PlnAll.last {xs : List D} {x : D} : ∀ {n : Nat}, PlnAll (xs ++ [x]) n → ∃ a b, PlnAll xs a ∧ Pln x b ∧ n = a + b := by
  induction xs with
  | nil =>
    intro n h
    cases h with
    | cons a t =>
      cases t
      exact ⟨0, _, .nil, a, by omega⟩
  | cons y xs ih =>
    intro n h
    cases h with
    | cons a t =>
      obtain ⟨p, q, h1, h2, e⟩ := ih t
      exact ⟨_, q, .cons a h1, h2, by omega⟩
end Pf
set_option Elab.async false
set_option linter.all false
set_option maxRecDepth 100000
set_option maxHeartbeats 4000000
set_option exponentiation.threshold 10000
namespace K76
open PySem PySem.Spec PyProof.Rows L2 Pf
def topS (i : Nat) : Stmt := PySem.Challenge.pw_sumsbetray_k76_whole_ways.main.body.getD i (.Pass ⟨0, 0, 0, 0⟩)
def qz (a b : Int) : D := .tuple [.int a, .int b]
abbrev d_ZERO : D := .tuple [.int 0, .int 1]
abbrev fMinL : FN := fExt fun y m => m ≤ y
structure Gb (mg : Str → Option Value) : Prop where
  len : mg "len" = none
  int : mg "int" = none
  abs : mg "abs" = none
  tuple : mg "tuple" = none
  list : mg "list" = none
  min : mg "min" = none
  all : mg "all" = none
  sorted : mg "sorted" = none
  str : mg "str" = none
  bool : mg "bool" = none
  set : mg "set" = none
  isinstance : mg "isinstance" = none
  range : mg "range" = none
  enumerate : mg "enumerate" = none
  gcd : mg "gcd" = some (.builtin "math.gcd")
structure Gs (K : Fg) (mg : Str → Option Value) : Prop extends Gb mg where
  zero : GlobD K mg "ZERO" d_ZERO
theorem Gs.ZERO {X : Cx} (g : Gs X.K X.mg) {pos : Pos} (hg : Gl X "ZERO" := by rfl) : QV X (.Name "ZERO" pos) (rC d_ZERO) := qv_globD g.zero hg
theorem andR {A B : Prop} (b : B) (a : A) : A ∧ B := ⟨a, b⟩
/-- what a def's body has to do: its reading ends as the promise says -/
abbrev Ends (r : RS) (N : List Str) (os : List O) (Q : O → List O → Prop) : Prop := r { nx := fun e => finL e os (Q (.d .none)), rt := fun o e => finL e os (Q o), bk := fun _ => False, ct := fun _ => False } (env0 N os)
theorem decI {c : Prop} {inst : Decidable c} {f : ¬c → Prop} {g : c → Prop} (a : ∀ h : c, g h) (b : ∀ h : ¬c, f h) : Decidable.rec (motive := fun _ => Prop) f g inst := by
  cases inst with
  | isTrue h => exact a h
  | isFalse h => exact b h
theorem atE {α : Type} {o : Option α} {k : α → Prop} {z : α} (h : o = some z) (q : k z) : ∃ z, o = some z ∧ k z := ⟨z, h, q⟩
end K76
set_option Elab.async false
set_option linter.all false
/-! Fl: flows and cuts of a net whose lines are numbered, in plain Lean. -/
namespace Fl
def sumTo : Nat → (Nat → Int) → Int
  | 0, _ => 0
  | n + 1, g => sumTo n g + g n
theorem sumTo_congr {f g : Nat → Int} : ∀ {n : Nat}, (∀ k, k < n → f k = g k) → sumTo n f = sumTo n g
  | 0, _ => rfl
  | n + 1, h => by
    unfold sumTo
    rw [sumTo_congr (n := n) fun k hk => h k (by omega), h n (by omega)]
theorem sumTo_le {f g : Nat → Int} : ∀ {n : Nat}, (∀ k, k < n → f k ≤ g k) → sumTo n f ≤ sumTo n g
  | 0, _ => Int.le_refl _
  | n + 1, h => by
    unfold sumTo
    have := sumTo_le (n := n) fun k hk => h k (by omega)
    have := h n (by omega)
    omega
theorem sumTo_lt {f g : Nat → Int} : ∀ {n : Nat} {j : Nat}, j < n → f j < g j → (∀ k, k < n → f k ≤ g k) → sumTo n f < sumTo n g
  | 0, _, hj, _, _ => absurd hj (by omega)
  | n + 1, j, hj, hl, h => by
    unfold sumTo
    have h2 := h n (by omega)
    by_cases e : j = n
    · subst e
      have := sumTo_le (n := j) (f := f) (g := g) fun k hk => h k (by omega)
      omega
    · have := sumTo_lt (n := n) (j := j) (f := f) (g := g) (by omega) hl fun k hk => h k (by omega)
      omega
theorem sumTo_pos {g : Nat → Int} : ∀ {n : Nat}, 0 < sumTo n g → ∃ k, k < n ∧ 0 < g k
  | 0, h => absurd h (by unfold sumTo; omega)
  | n + 1, h => by
    unfold sumTo at h
    by_cases e : 0 < g n
    · exact ⟨n, by omega, e⟩
    · obtain ⟨k, h1, h2⟩ := sumTo_pos (n := n) (g := g) (by omega)
      exact ⟨k, by omega, h2⟩
/-- one item changed -/
theorem sumTo_one {f g : Nat → Int} {j : Nat} : ∀ {n : Nat}, j < n → (∀ k, k < n → k ≠ j → f k = g k) → sumTo n f = sumTo n g + (f j - g j)
  | 0, hj, _ => absurd hj (by omega)
  | n + 1, hj, h => by
    unfold sumTo
    by_cases e : j = n
    · subst e
      rw [sumTo_congr (n := j) (f := f) (g := g) fun k hk => h k (by omega) (by omega)]
      omega
    · rw [sumTo_one (n := n) (f := f) (g := g) (by omega) fun k hk hn => h k (by omega) hn, h n (by omega) (fun z => e z.symm)]
      omega
theorem sumTo_zero : ∀ {n : Nat}, sumTo n (fun _ => 0) = 0
  | 0 => rfl
  | n + 1 => by unfold sumTo; rw [sumTo_zero]; rfl
def ind (b : Bool) : Int := if b then 1 else 0
theorem sumTo_count {p : Nat → Bool} : ∀ {n : Nat}, sumTo n (fun k => ind (p k)) = (((List.range n).filter p).length : Nat)
  | 0 => rfl
  | n + 1 => by
    unfold sumTo
    rw [sumTo_count (n := n), List.range_succ, List.filter_append, List.length_append]
    cases h : p n <;> simp [ind, h]

/-- a net: how many lines, their ends, which are blank -/
structure Net where
  n : Nat
  t : Nat → Nat
  h : Nat → Nat
  bl : Nat → Bool
def Net.cross (N : Net) (S : Nat → Bool) (k : Nat) : Bool := !N.bl k && (S (N.t k) != S (N.h k))
def Net.cut (N : Net) (S : Nat → Bool) : Nat := ((List.range N.n).filter (N.cross S)).length
def Sep (b e : Nat) (S : Nat → Bool) : Prop := S b = true ∧ S e = false
def Net.bal (N : Net) (f φ : Nat → Int) : Int := sumTo N.n fun k => f k * (φ (N.t k) - φ (N.h k))
structure Net.Flow (N : Net) (f : Nat → Int) (b e : Nat) (m : Nat) : Prop where
  bal : ∀ φ, N.bal f φ = (m : Int) * (φ b - φ e)
  lo : ∀ k, k < N.n → -1 ≤ f k
  hi : ∀ k, k < N.n → f k ≤ 1
  bl : ∀ k, k < N.n → N.bl k = true → f k = 0
section
variable {N : Net} {f : Nat → Int} {b e m : Nat}
theorem Net.Flow.zero (b e : Nat) : N.Flow (fun _ => 0) b e 0 := ⟨fun φ => by
  unfold Net.bal
  rw [show (fun k => (0 : Int) * (φ (N.t k) - φ (N.h k))) = fun _ => 0 from funext fun k => Int.zero_mul _, sumTo_zero]
  simp, fun _ _ => by decide, fun _ _ => by decide, fun _ _ _ => rfl⟩
theorem Net.Flow.term (F : N.Flow f b e m) (S : Nat → Bool) {k : Nat} (hk : k < N.n) : f k * (ind (S (N.t k)) - ind (S (N.h k))) ≤ ind (N.cross S k) := by
  have h1 := F.lo k hk
  have h2 := F.hi k hk
  have h3 := F.bl k hk
  unfold Net.cross
  cases hb : N.bl k with
  | true =>
    rw [h3 hb]
    simp [ind]
  | false =>
    cases S (N.t k) <;> cases S (N.h k) <;> simp [ind] <;> omega
theorem Net.Flow.sum (F : N.Flow f b e m) {S : Nat → Bool} (hS : Sep b e S) : (m : Int) = sumTo N.n fun k => f k * (ind (S (N.t k)) - ind (S (N.h k))) := by
  have h := F.bal fun v => ind (S v)
  rw [hS.1, hS.2] at h
  rw [show N.bal f (fun v => ind (S v)) = sumTo N.n fun k => f k * (ind (S (N.t k)) - ind (S (N.h k))) from rfl] at h
  rw [h]
  simp [ind]
theorem Net.cut_sum (N : Net) (S : Nat → Bool) : (N.cut S : Int) = sumTo N.n fun k => ind (N.cross S k) := sumTo_count.symm
/-- what flows is no more than a cut -/
theorem Net.Flow.le (F : N.Flow f b e m) {S : Nat → Bool} (hS : Sep b e S) : m ≤ N.cut S := by
  have h1 := F.sum hS
  have h2 := N.cut_sum S
  have h3 := sumTo_le (n := N.n) fun k hk => F.term S hk
  omega
/-- line k, along it (1) or against it (-1), from p to q -/
def Net.Go (N : Net) (s : Nat × Int) (p q : Nat) : Prop := (s.2 = 1 ∧ N.t s.1 = p ∧ N.h s.1 = q) ∨ (s.2 = -1 ∧ N.h s.1 = p ∧ N.t s.1 = q)
/-- .. and one more unit can go -/
def Net.Res (N : Net) (f : Nat → Int) (s : Nat × Int) (p q : Nat) : Prop := s.1 < N.n ∧ N.bl s.1 = false ∧ N.Go s p q ∧ (s.2 = 1 → f s.1 < 1) ∧ (s.2 = -1 → -1 < f s.1)
theorem Net.Flow.lt (F : N.Flow f b e m) {S : Nat → Bool} (hS : Sep b e S) {s : Nat × Int} {p q : Nat} (r : N.Res f s p q) (hp : S p = true) (hq : S q = false) : m < N.cut S := by
  have h1 := F.sum hS
  have h2 := N.cut_sum S
  obtain ⟨r1, r2, r3, r4, r5⟩ := r
  have h3 := sumTo_lt (n := N.n) (j := s.1) (f := fun k => f k * (ind (S (N.t k)) - ind (S (N.h k)))) (g := fun k => ind (N.cross S k)) r1 (by
    unfold Net.cross
    rcases r3 with ⟨d, e1, e2⟩ | ⟨d, e1, e2⟩
    · have := r4 d
      subst e1 e2
      simp [r2, hp, hq, ind]
      omega
    · have := r5 d
      subst e1 e2
      simp [r2, hp, hq, ind]
      omega) fun k hk => F.term S hk
  omega
/-- nothing can leave S: what flows is the cut -/
theorem Net.Flow.eq (F : N.Flow f b e m) {S : Nat → Bool} (hS : Sep b e S) (cl : ∀ s p q, N.Res f s p q → S p = true → S q = true) : m = N.cut S := by
  have h1 := F.sum hS
  have h2 := N.cut_sum S
  have h3 : sumTo N.n (fun k => f k * (ind (S (N.t k)) - ind (S (N.h k)))) = sumTo N.n fun k => ind (N.cross S k) := sumTo_congr fun k hk => by
    have g1 := F.lo k hk
    have g2 := F.hi k hk
    have g3 := F.bl k hk
    unfold Net.cross
    cases hb : N.bl k with
    | true =>
      rw [g3 hb]
      simp [ind]
    | false =>
      have c1 := fun z => cl (k, 1) (N.t k) (N.h k) ⟨hk, hb, .inl ⟨rfl, rfl, rfl⟩, fun _ => z, fun q => by simp at q⟩
      have c2 := fun z => cl (k, -1) (N.h k) (N.t k) ⟨hk, hb, .inr ⟨rfl, rfl, rfl⟩, fun q => by simp at q, fun _ => z⟩
      cases q1 : S (N.t k) <;> cases q2 : S (N.h k)
      · simp [ind]
      · have : ¬ -1 < f k := fun z => by
          have := c2 z q2
          rw [q1] at this
          cases this
        have : f k = -1 := by omega
        rw [this]; simp [ind]
      · have : ¬ f k < 1 := fun z => by
          have := c1 z q1
          rw [q2] at this
          cases this
        have : f k = 1 := by omega
        rw [this]; simp [ind]
      · simp [ind]
  omega
/-- one more unit along a line -/
def upd (f : Nat → Int) (k : Nat) (x : Int) : Nat → Int := fun j => if j = k then x else f j
theorem upd_self {k : Nat} {x : Int} : upd f k x k = x := if_pos rfl
theorem upd_ne {k j : Nat} {x : Int} (h : j ≠ k) : upd f k x j = f j := if_neg h
theorem Net.bal_upd {k : Nat} {x : Int} (hk : k < N.n) (φ : Nat → Int) : N.bal (upd f k x) φ = N.bal f φ + (x - f k) * (φ (N.t k) - φ (N.h k)) := by
  unfold Net.bal
  rw [sumTo_one (n := N.n) (j := k) (f := fun j => upd f k x j * (φ (N.t j) - φ (N.h j))) (g := fun j => f j * (φ (N.t j) - φ (N.h j))) hk fun j _ hn => by rw [upd_ne hn]]
  rw [upd_self, Int.sub_mul]
theorem Net.Go.dlt {s : Nat × Int} {p q : Nat} (g : N.Go s p q) (φ : Nat → Int) : s.2 * (φ (N.t s.1) - φ (N.h s.1)) = φ p - φ q := by
  rcases g with ⟨a, b, c⟩ | ⟨a, b, c⟩ <;> rw [a, b, c] <;> omega
theorem Net.Go.one {s : Nat × Int} {p q : Nat} (g : N.Go s p q) : s.2 = 1 ∨ s.2 = -1 := by
  rcases g with ⟨a, _⟩ | ⟨a, _⟩
  · exact .inl a
  · exact .inr a
end
end Fl
set_option Elab.async false
set_option linter.all false
/-! Fl: the search, and one more unit along what it found. -/
namespace Fl
abbrev Ent := Nat × Option (Nat × Int × Nat)
inductive Came (N : Net) (f : Nat → Int) (b : Nat) : List Ent → Prop
  | base : Came N f b [(b, none)]
  | snoc {kvs : List Ent} {k : Nat} {d : Int} {o p : Nat} : Came N f b kvs → o ∈ kvs.map (·.1) → N.Res f (k, d) o p → p ∉ kvs.map (·.1) → Came N f b (kvs ++ [(p, some (k, d, o))])
section
variable {N : Net} {f : Nat → Int} {b e m : Nat} {kvs : List Ent}
theorem Came.nodup (c : Came N f b kvs) : (kvs.map (·.1)).Nodup := by
  induction c with
  | base => simp
  | snoc c _ _ hn ih =>
    rw [List.map_append, List.nodup_append]
    refine ⟨ih, by simp, fun a ha x hx => ?_⟩
    rw [List.map_singleton, List.mem_singleton] at hx
    subst hx
    exact fun z => hn (z ▸ ha)
theorem Came.head (c : Came N f b kvs) : kvs[0]? = some (b, none) := by
  induction c with
  | base => rfl
  | snoc c _ _ _ ih =>
    rw [List.getElem?_append_left (List.getElem?_eq_some_iff.mp ih).1]
    exact ih
theorem Came.mem (c : Came N f b kvs) : b ∈ kvs.map (·.1) := List.mem_map.mpr ⟨_, List.mem_of_getElem? c.head, rfl⟩
/-- out of a set that has the begin and not all that was come to, there is a step -/
theorem Came.leave (c : Came N f b kvs) {S : Nat → Bool} (hb : S b = true) {q : Nat} (hq : q ∈ kvs.map (·.1)) (hS : S q = false) : ∃ s p q', N.Res f s p q' ∧ S p = true ∧ S q' = false := by
  induction c generalizing q with
  | base =>
    rw [List.map_singleton, List.mem_singleton] at hq
    dsimp only at hq
    rw [hq, hb] at hS
    cases hS
  | snoc c ho r hn ih =>
    rename_i kvs k d o p
    rw [List.map_append, List.mem_append] at hq
    rcases hq with hq | hq
    · exact ih hq hS
    · rw [List.map_singleton, List.mem_singleton] at hq
      dsimp only at hq
      subst hq
      cases hs : S o with
      | true => exact ⟨_, _, _, r, hs, hS⟩
      | false => exact ih ho hs
/-- an entry behind the first -/
theorem Came.at (c : Came N f b kvs) {i : Nat} {y : Ent} (hi : kvs[i]? = some y) (h0 : 0 < i) : ∃ k d o, y.2 = some (k, d, o) ∧ N.Res f (k, d) o y.1 ∧ ∃ j z, j < i ∧ kvs[j]? = some z ∧ z.1 = o := by
  induction c generalizing i with
  | base =>
    have := (List.getElem?_eq_some_iff.mp hi).1
    rw [List.length_singleton] at this
    omega
  | snoc c ho r hn ih =>
    rename_i kvs k d o p
    by_cases hl : i < kvs.length
    · rw [List.getElem?_append_left hl] at hi
      obtain ⟨k, d, o, e1, e2, j, z, e3, e4, e5⟩ := ih hi h0
      exact ⟨k, d, o, e1, e2, j, z, e3, by rw [List.getElem?_append_left (by omega)]; exact e4, e5⟩
    · have hlt := (List.getElem?_eq_some_iff.mp hi).1
      rw [List.length_append, List.length_singleton] at hlt
      have ei : i = kvs.length := by omega
      subst ei
      rw [List.getElem?_append_right (Nat.le_refl _), Nat.sub_self] at hi
      cases hi
      obtain ⟨z, hz, ez⟩ := List.mem_map.mp ho
      obtain ⟨j, hj⟩ := List.mem_iff_getElem?.mp hz
      have hjl := (List.getElem?_eq_some_iff.mp hj).1
      exact ⟨k, d, o, rfl, r, j, z, hjl, by rw [List.getElem?_append_left hjl]; exact hj, ez⟩
theorem Came.inj (c : Came N f b kvs) {i j : Nat} {y z : Ent} (hi : kvs[i]? = some y) (hj : kvs[j]? = some z) (e : y.1 = z.1) : i = j := by
  have nd := c.nodup
  have h1 : (kvs.map (·.1))[i]? = some y.1 := by rw [List.getElem?_map, hi]; rfl
  have h2 : (kvs.map (·.1))[j]? = some y.1 := by rw [List.getElem?_map, hj, e]; rfl
  have l1 := (List.getElem?_eq_some_iff.mp h1)
  have l2 := (List.getElem?_eq_some_iff.mp h2)
  have p := List.pairwise_iff_getElem.mp nd
  rcases Nat.lt_trichotomy i j with q | q | q
  · exact absurd (l1.2.trans l2.2.symm) (p i j l1.1 l2.1 q)
  · exact q
  · exact absurd (l2.2.trans l1.2.symm) (p j i l2.1 l1.1 q)
/-- the flow g while it is led from the end back, at the entry i -/
structure Aug (N : Net) (f : Nat → Int) (b e : Nat) (kvs : List Ent) (g : Nat → Int) (i p : Nat) : Prop where
  here : ∃ y, kvs[i]? = some y ∧ y.1 = p
  bal : ∀ φ, N.bal g φ = N.bal f φ + (φ p - φ e)
  ch : ∀ k, g k ≠ f k → ∃ j y, i < j ∧ kvs[j]? = some y ∧ (y.1 = N.t k ∨ y.1 = N.h k)
  lo : ∀ k, k < N.n → -1 ≤ g k
  hi : ∀ k, k < N.n → g k ≤ 1
  bl : ∀ k, k < N.n → N.bl k = true → g k = 0
theorem Aug.start (F : N.Flow f b e m) (h : e ∈ kvs.map (·.1)) : ∃ i, i < kvs.length ∧ Aug N f b e kvs f i e := by
  obtain ⟨y, hy, ey⟩ := List.mem_map.mp h
  obtain ⟨i, hi⟩ := List.mem_iff_getElem?.mp hy
  exact ⟨i, (List.getElem?_eq_some_iff.mp hi).1, ⟨y, hi, ey⟩, fun φ => by omega, fun k hk => absurd rfl hk, F.lo, F.hi, F.bl⟩
theorem Aug.next {g : Nat → Int} {i p : Nat} (c : Came N f b kvs) (A : Aug N f b e kvs g i p) {y : Ent} (hy : kvs[i]? = some y) {k : Nat} {d : Int} {o : Nat} (e2 : y.2 = some (k, d, o)) :
    k < N.n ∧ (d = 1 ∨ d = -1) ∧ ∃ j, j < i ∧ Aug N f b e kvs (upd g k (g k + d)) j o := by
  have h0 : 0 < i := by
    rcases Nat.eq_zero_or_pos i with z | z
    · subst z
      rw [c.head] at hy
      cases hy
      cases e2
    · exact z
  obtain ⟨y', hy', ep⟩ := A.here
  rw [hy] at hy'
  cases hy'
  obtain ⟨k', d', o', e3, r, j, z, hj, hz, ez⟩ := c.at hy h0
  rw [e2] at e3
  cases e3
  obtain ⟨r1, r2, r3, r4, r5⟩ := r
  have gk : g k = f k := by
    refine Decidable.byContradiction fun hne => ?_
    obtain ⟨l, w, hl, hw, ew⟩ := A.ch k hne
    have : w.1 = o ∨ w.1 = y.1 := by
      rcases r3 with ⟨_, a, a2⟩ | ⟨_, a, a2⟩ <;> dsimp only at a a2 <;> rw [a, a2] at ew <;> rcases ew with q | q
      · exact .inl q
      · exact .inr q
      · exact .inr q
      · exact .inl q
    rcases this with q | q
    · have := c.inj hw hz (q.trans ez.symm)
      omega
    · have := c.inj hw hy q
      omega
  have hd := r3.one
  dsimp only at hd r1 r2 r4 r5
  refine ⟨r1, hd, j, hj, ⟨z, hz, ez⟩, fun φ => ?_, fun l hl => ?_, fun l hl => ?_, fun l hl => ?_, fun l hl hb => ?_⟩
  · rw [Net.bal_upd r1, A.bal, ← ep]
    have := r3.dlt φ
    dsimp only at this
    rw [show g k + d - g k = d by omega, this]
    omega
  · by_cases q : l = k
    · subst q
      refine ⟨i, y, hj, hy, ?_⟩
      rcases r3 with ⟨_, a, a2⟩ | ⟨_, a, a2⟩
      · exact .inr a2.symm
      · exact .inl a2.symm
    · rw [upd_ne q] at hl
      obtain ⟨w, u, h1, h2, h3⟩ := A.ch l hl
      exact ⟨w, u, by omega, h2, h3⟩
  · by_cases q : l = k
    · subst q
      rw [upd_self, gk]
      have := A.lo l hl
      rw [gk] at this
      rcases hd with z | z
      · omega
      · have := r5 z; omega
    · rw [upd_ne q]; exact A.lo l hl
  · by_cases q : l = k
    · subst q
      rw [upd_self, gk]
      have := A.hi l hl
      rw [gk] at this
      rcases hd with z | z
      · have := r4 z; omega
      · omega
    · rw [upd_ne q]; exact A.hi l hl
  · by_cases q : l = k
    · subst q
      rw [r2] at hb
      cases hb
    · rw [upd_ne q]; exact A.bl l hl hb
theorem Aug.done {g : Nat → Int} {i p : Nat} (F : N.Flow f b e m) (c : Came N f b kvs) (A : Aug N f b e kvs g i p) {y : Ent} (hy : kvs[i]? = some y) (e2 : y.2 = none) : N.Flow g b e (m + 1) := by
  have h0 : i = 0 := by
    rcases Nat.eq_zero_or_pos i with z | z
    · exact z
    · obtain ⟨k, d, o, e3, _⟩ := c.at hy z
      rw [e2] at e3
      cases e3
  subst h0
  rw [c.head] at hy
  cases hy
  obtain ⟨y', hy', ep⟩ := A.here
  rw [c.head] at hy'
  cases hy'
  dsimp only at ep
  subst ep
  refine ⟨fun φ => ?_, A.lo, A.hi, A.bl⟩
  rw [A.bal, F.bal, Int.natCast_add, Int.add_mul]
  omega
/-- the value found, the key looked up -/
theorem Came.find (c : Came N f b kvs) {i : Nat} {y : Ent} (hy : kvs[i]? = some y) : (kvs.find? fun z => decide (z.1 = y.1)) = some y := by
  have h1 : (kvs.find? fun z => decide (z.1 = y.1)).isSome = true := List.find?_isSome.mpr ⟨y, List.mem_of_getElem? hy, by simp⟩
  obtain ⟨z, hz⟩ := Option.isSome_iff_exists.mp h1
  have h2 := List.find?_some hz
  have h3 := List.mem_of_find?_eq_some hz
  obtain ⟨j, hj⟩ := List.mem_iff_getElem?.mp h3
  have := c.inj hj hy (by simpa using h2)
  subst this
  rw [hy] at hj
  cases hj
  exact hz
end
end Fl
set_option Elab.async false
set_option linter.all false
/-! Fl: a way taken out of a flow; ways turned about; what readings along them sum to. -/
namespace Fl
abbrev St := Nat × Int
def Net.fin (N : Net) (s : St) : Nat := if s.2 = 1 then N.h s.1 else N.t s.1
def Net.beg (N : Net) (s : St) : Nat := if s.2 = 1 then N.t s.1 else N.h s.1
def Net.Chain (N : Net) : Nat → List St → Nat → Prop
  | p, [], e => p = e
  | p, s :: W, e => N.beg s = p ∧ N.Chain (N.fin s) W e
def Net.marks (N : Net) (b : Nat) (W : List St) : List Nat := b :: W.map N.fin
structure Net.Way (N : Net) (b e : Nat) (W : List St) : Prop where
  ok : ∀ s ∈ W, s.1 < N.n ∧ (s.2 = 1 ∨ s.2 = -1)
  chain : N.Chain b W e
  nodup : (N.marks b W).Nodup
section
variable {N : Net} {f : Nat → Int} {b e m : Nat} {W : List St}
theorem Net.Chain.snoc {s : St} : ∀ {W : List St} {b q : Nat}, N.Chain b W q → N.beg s = q → N.Chain b (W ++ [s]) (N.fin s)
  | [], _, _, h, e => ⟨e.trans h.symm, rfl⟩
  | _ :: _, _, _, h, e => ⟨h.1, h.2.snoc e⟩
theorem Net.Chain.take : ∀ {W : List St} {b q i : Nat}, N.Chain b W q → ∀ {r : Nat}, (N.marks b W)[i]? = some r → N.Chain b (W.take i) r
  | W, b, q, 0, h, r, e => by
    cases e
    rfl
  | [], b, q, i + 1, h, r, e => by
    unfold Net.marks at e
    simp at e
  | s :: W, b, q, i + 1, h, r, e => ⟨h.1, h.2.take (i := i) (r := r) (by
      unfold Net.marks at e ⊢
      rw [List.map_cons, List.getElem?_cons_succ] at e
      exact e)⟩
theorem Net.Chain.begs : ∀ {W : List St} {b e : Nat}, N.Chain b W e → N.marks b W = W.map N.beg ++ [e]
  | [], _, _, h => by unfold Net.marks; rw [show _ = _ from h]; rfl
  | s :: W, b, e, h => by
    have := h.2.begs
    unfold Net.marks at this ⊢
    rw [List.map_cons, List.map_cons, this, h.1]
    rfl
theorem Net.Chain.last {W : List St} {b e : Nat} (h : N.Chain b W e) : (N.marks b W)[W.length]? = some e := by
  rw [h.begs, List.getElem?_append_right (by rw [List.length_map]; exact Nat.le_refl _), List.length_map, Nat.sub_self]
  rfl
theorem marks_take (N : Net) (b : Nat) (W : List St) (i : Nat) : (N.marks b W).take (i + 1) = N.marks b (W.take i) := by
  unfold Net.marks
  rw [List.take_succ_cons, List.map_take]
theorem marks_snoc (N : Net) (b : Nat) (W : List St) (s : St) : N.marks b (W ++ [s]) = N.marks b W ++ [N.fin s] := by
  unfold Net.marks
  rw [List.map_append]
  rfl
theorem marks_len (N : Net) (b : Nat) (W : List St) : (N.marks b W).length = W.length + 1 := by
  unfold Net.marks
  rw [List.length_cons, List.length_map]
theorem Net.Way.ne (w : N.Way b e W) (h : b ≠ e) : W ≠ [] := by
  intro z
  subst z
  exact h w.chain
/-- turned about -/
def turnW (W : List St) : List St := W.reverse.map fun s => (s.1, -s.2)
theorem fin_neg {s : St} (h : s.2 = 1 ∨ s.2 = -1) : N.fin (s.1, -s.2) = N.beg s := by
  unfold Net.fin Net.beg
  rcases h with q | q <;> rw [q] <;> simp
theorem beg_neg {s : St} (h : s.2 = 1 ∨ s.2 = -1) : N.beg (s.1, -s.2) = N.fin s := by
  unfold Net.fin Net.beg
  rcases h with q | q <;> rw [q] <;> simp
theorem Net.Chain.turn : ∀ {W : List St} {b e : Nat}, (∀ s ∈ W, s.2 = 1 ∨ s.2 = -1) → N.Chain b W e → N.Chain e (turnW W) b
  | [], _, _, _, h => (show _ = _ from h).symm
  | s :: W, b, e, ok, h => by
    have hs := ok s List.mem_cons_self
    have ih := h.2.turn fun s m => ok s (List.mem_cons_of_mem _ m)
    unfold turnW at ih ⊢
    rw [List.reverse_cons, List.map_append]
    have := ih.snoc (s := (s.1, -s.2)) (beg_neg hs)
    rw [fin_neg hs, h.1] at this
    exact this
theorem Net.Way.turn (w : N.Way b e W) : N.Way e b (turnW W) := by
  have ok2 : ∀ s ∈ W, s.2 = 1 ∨ s.2 = -1 := fun s m => (w.ok s m).2
  have c := w.chain.turn ok2
  refine ⟨fun s m => ?_, c, ?_⟩
  · unfold turnW at m
    obtain ⟨z, hz, rfl⟩ := List.mem_map.mp m
    have := w.ok z (List.mem_reverse.mp hz)
    refine ⟨this.1, ?_⟩
    rcases this.2 with q | q
    · exact .inr (by show -z.2 = -1; rw [q])
    · exact .inl (by show -z.2 = 1; rw [q]; rfl)
  · have e1 : N.marks e (turnW W) = (N.marks b W).reverse := by
      rw [w.chain.begs]
      unfold Net.marks turnW
      rw [List.reverse_append, List.reverse_singleton, List.singleton_append, List.map_map, ← List.map_reverse]
      congr 1
      refine List.map_congr_left fun s m => ?_
      exact fin_neg (ok2 s (List.mem_reverse.mp m))
    rw [e1]
    exact (List.reverse_perm _).nodup_iff.mpr w.nodup
theorem lines_turn : (turnW W).map (·.1) = (W.map (·.1)).reverse := by
  unfold turnW
  rw [List.map_map, ← List.map_reverse]
  rfl
/-- a way is being taken out: it stands at p -/
structure Tak (N : Net) (f0 : Nat → Int) (b e r : Nat) (W : List St) (g : Nat → Int) (p : Nat) : Prop where
  bal : ∀ φ, N.bal g φ = (r : Int) * φ b - ((r : Int) + 1) * φ e + φ p
  sub : ∀ k, g k = f0 k ∨ g k = 0
  way : N.Way b p W
  out : ∀ s ∈ W, f0 s.1 = s.2 ∧ g s.1 = 0
/-- what stands in a flow while ways are taken out of it -/
structure Net.Sub (N : Net) (g : Nat → Int) (b e r : Nat) : Prop where
  bal : ∀ φ, N.bal g φ = (r : Int) * (φ b - φ e)
  lo : ∀ k, k < N.n → -1 ≤ g k
  hi : ∀ k, k < N.n → g k ≤ 1
theorem Tak.start {r : Nat} (F : N.Sub f b e (r + 1)) : Tak N f b e r [] f b := by
  refine ⟨fun φ => ?_, fun k => .inl rfl, ⟨(fun s m => nomatch m), rfl, by unfold Net.marks; simp⟩, (fun s m => nomatch m)⟩
  rw [F.bal, Int.natCast_add, Int.mul_sub, Int.add_mul, Int.add_mul]
  show (r : Int) * φ b + 1 * φ b - ((r : Int) * φ e + 1 * φ e) = (r : Int) * φ b - ((r : Int) + 1) * φ e + φ b
  rw [Int.add_mul]
  omega
theorem Tak.go {r : Nat} {g : Nat → Int} {p : Nat} (T : Tak N f b e r W g p) (hp : p ≠ e) : ∃ k, k < N.n ∧ ((0 < g k ∧ N.t k = p) ∨ (g k < 0 ∧ N.h k = p)) := by
  have h := T.bal fun v => ind (v == p)
  have e1 : ind (e == p) = 0 := by
    unfold ind
    rw [if_neg (by simpa using Ne.symm hp)]
  have e2 : ind (p == p) = 1 := by simp [ind]
  have e3 : 0 ≤ ind (b == p) := by unfold ind; split <;> decide
  rw [e1, e2] at h
  have h0 : 0 ≤ (r : Int) * ind (b == p) := Int.mul_nonneg (by omega) e3
  have pos : 0 < N.bal g fun v => ind (v == p) := by
    rw [h]
    omega
  obtain ⟨k, hk, hg⟩ := sumTo_pos pos
  refine ⟨k, hk, ?_⟩
  dsimp only at hg
  by_cases a : N.t k = p <;> by_cases c : N.h k = p
  · rw [a, c] at hg
    simp at hg
  · refine .inl ⟨?_, a⟩
    rw [a] at hg
    simpa [ind, c] using hg
  · refine .inr ⟨?_, c⟩
    rw [c] at hg
    have : 0 < g k * (0 - 1) := by simpa [ind, a] using hg
    omega
  · simp [ind, a, c] at hg
/-- one line more, loops cut out -/
theorem Tak.next {r : Nat} {g : Nat → Int} {p k : Nat} {d : Int} (T : Tak N f b e r W g p) (hk : k < N.n) (hd : g k = d) (h1 : (d = 1 ∧ N.t k = p) ∨ (d = -1 ∧ N.h k = p)) {i : Nat}
    (hi : (N.marks b (W ++ [(k, d)]))[i]? = some (N.fin (k, d))) (hf : ∀ j, j < i → (N.marks b (W ++ [(k, d)]))[j]? ≠ some (N.fin (k, d))) : Tak N f b e r ((W ++ [(k, d)]).take i) (upd g k 0) (N.fin (k, d)) := by
  have hd1 : d = 1 ∨ d = -1 := by
    rcases h1 with ⟨a, _⟩ | ⟨a, _⟩
    · exact .inl a
    · exact .inr a
  have hbeg : N.beg (k, d) = p := by
    unfold Net.beg
    rcases h1 with ⟨a, c⟩ | ⟨a, c⟩ <;> rw [a] <;> simp [c]
  have hgo : d * (1 : Int) = d := Int.mul_one d
  have chain := T.way.chain.snoc hbeg
  refine ⟨fun φ => ?_, fun j => ?_, ⟨fun s m => ?_, chain.take hi, ?_⟩, fun s m => ?_⟩
  · rw [Net.bal_upd hk, T.bal, hd]
    have : d * (φ (N.t k) - φ (N.h k)) = φ p - φ (N.fin (k, d)) := by
      unfold Net.fin
      rcases h1 with ⟨a, c⟩ | ⟨a, c⟩ <;> subst a <;> rw [← c] <;> simp <;> omega
    rw [show (0 - d) = -d by omega, Int.neg_mul, this]
    omega
  · by_cases q : j = k
    · subst q
      exact .inr upd_self
    · rw [upd_ne q]
      exact T.sub j
  · have m := List.mem_of_mem_take m
    rcases List.mem_append.mp m with m | m
    · exact T.way.ok s m
    · rw [List.mem_singleton.mp m]
      exact ⟨hk, hd1⟩
  · rw [← marks_take]
    have nd := T.way.nodup
    have hl := (List.getElem?_eq_some_iff.mp hi).1
    rw [marks_snoc] at hi hf hl ⊢
    rw [List.length_append, List.length_singleton] at hl
    by_cases q : i < (N.marks b W).length
    · rw [List.take_append_of_le_length (by omega)]
      exact nd.sublist (List.take_sublist _ _)
    · have ei : i = (N.marks b W).length := by omega
      subst ei
      rw [List.take_of_length_le (by simp)]
      rw [List.nodup_append]
      refine ⟨nd, by simp, fun a ha x hx z => ?_⟩
      rw [List.mem_singleton] at hx
      subst hx z
      obtain ⟨j, hj⟩ := List.mem_iff_getElem?.mp ha
      have hjl := (List.getElem?_eq_some_iff.mp hj).1
      refine hf j hjl ?_
      rw [List.getElem?_append_left hjl]
      exact hj
  · have m := List.mem_of_mem_take m
    rcases List.mem_append.mp m with m | m
    · obtain ⟨a, c⟩ := T.out s m
      refine ⟨a, ?_⟩
      by_cases q : s.1 = k
      · rw [q]; exact upd_self
      · rw [upd_ne q]; exact c
    · rw [List.mem_singleton.mp m]
      refine ⟨?_, upd_self⟩
      show f k = d
      rcases T.sub k with q | q
      · rw [← q]; exact hd
      · rw [hd] at q
        rcases hd1 with z | z <;> omega
theorem Tak.done {r : Nat} {g : Nat → Int} (F : N.Sub f b e (r + 1)) (T : Tak N f b e r W g e) : N.Sub g b e r := by
  refine ⟨fun φ => ?_, fun k hk => ?_, fun k hk => ?_⟩
  · rw [T.bal, Int.mul_sub, Int.add_mul]
    omega
  · rcases T.sub k with q | q <;> rw [q]
    · exact F.lo k hk
    · decide
  · rcases T.sub k with q | q <;> rw [q]
    · exact F.hi k hk
    · decide
/-- how many lines still carry something -/
def nz (n : Nat) (g : Nat → Int) : Nat := ((List.range n).filter fun k => decide (g k ≠ 0)).length
theorem nz_lt {n : Nat} {g : Nat → Int} {k : Nat} (hk : k < n) (h : g k ≠ 0) : nz n (upd g k 0) < nz n g := by
  have h1 := sumTo_count (n := n) (p := fun k => decide (g k ≠ 0))
  have h2 := sumTo_count (n := n) (p := fun j => decide (upd g k 0 j ≠ 0))
  have h3 := sumTo_lt (n := n) (j := k) (f := fun j => ind (decide (upd g k 0 j ≠ 0))) (g := fun k => ind (decide (g k ≠ 0))) hk (by
    show ind (decide (upd g k 0 k ≠ 0)) < ind (decide (g k ≠ 0))
    rw [upd_self]
    simp [ind, h]) fun j hj => by
    show ind (decide (upd g k 0 j ≠ 0)) ≤ ind (decide (g j ≠ 0))
    by_cases q : j = k
    · subst q
      rw [upd_self]
      unfold ind
      split <;> split <;> simp_all
    · rw [upd_ne q]
      exact Int.le_refl _
  unfold nz
  omega
/-- lines of a way are different -/
theorem Net.Way.lines (w : N.Way b e W) (f0 : Nat → Int) (h : ∀ s ∈ W, f0 s.1 = s.2) : (W.map (·.1)).Nodup := by
  have nd := w.nodup
  rw [w.chain.begs] at nd
  have nb := (List.nodup_append.mp nd).1
  have e1 : W.map N.beg = (W.map (·.1)).map fun k => N.beg (k, f0 k) := by
    rw [List.map_map]
    refine List.map_congr_left fun s m => ?_
    show N.beg s = N.beg (s.1, f0 s.1)
    rw [h s m]
  rw [e1] at nb
  exact List.Pairwise.of_map _ (fun a b h z => h (by rw [z])) nb
end
end Fl
set_option Elab.async false
set_option linter.all false
set_option maxRecDepth 100000
set_option maxHeartbeats 1000000
set_option exponentiation.threshold 20000
set_option pp.deepTerms false
set_option pp.maxSteps 500
namespace K76
open PySem PySem.Spec PyProof.Rows L2 Pf
local macro_rules | `(tactic| walk_at "go") => `(tactic| (conv => whnf) <;> repeat ((first | refine atE rfl ?_ | refine andR ?_ ?_); (conv => whnf)))
local macro_rules | `(tactic| walk_at "wh") => `(tactic| conv => whnf)
local macro_rules | `(tactic| walk_at "len") => `(tactic| (intro os Q h; (repeat (obtain ⟨_, h⟩ := h)); subst_vars; rfl))
local macro_rules | `(tactic| walk_at "keep") => `(tactic| (intro os Q h; (repeat (obtain ⟨_, h⟩ := h)); subst_vars; simp [keepOk]))
local macro_rules | `(tactic| walk_at "mono") => `(tactic| (intro os k k' f; repeat (first | exact f _ _ | refine Exists.imp fun _ => ?_ | refine And.imp_right ?_ | refine forall_imp fun _ => ?_)))
/-! small ones; the lines by which one can go on -/
abbrev Ln := Str × Nat × Nat
def lineD (l : Ln) : D := .tuple [.str l.1, .int (l.2.1 : Nat), .int (l.2.2 : Nat)]
def linesD (L : List Ln) : D := .tuple (L.map lineD)
def natsD (ns : List Nat) : D := .tuple (natD ns)
def netOf (L : List Ln) (bl : List Nat) : Fl.Net := ⟨L.length, fun k => (L.getD k ("", 0, 0)).2.1, fun k => (L.getD k ("", 0, 0)).2.2, fun k => bl.contains k⟩
def flo (fs : List Int) : Nat → Int := fun k => fs.getD k 0
abbrev Sp3 := Nat × Int × Nat
def gD (s : Sp3) : D := .tuple [.int (s.1 : Nat), .int s.2.1, .int (s.2.2 : Nat)]
def sp_is_integer : FSp := fun os Q => ∃ n : Int, os = [.d (.int n)] ∧ Q (.d (.bool true)) os
def sp_integer_within : FSp := fun os Q => ∃ n a b : Int, os = [.d (.int n), .d (.int a), .d (.int b)] ∧ Q (.d (.bool (decide (a ≤ n ∧ n ≤ b)))) os
def sp_tuple_of : FSp := fun os Q => ∃ (xs : List D) (n : Int), os = [.d (.tuple xs), .d (.int n)] ∧ Q (.d (.bool (decide ((xs.length : Int) = n)))) os
def sp_first_flow : FSp := fun os Q => ∃ L : List Ln, os = [.d (linesD L)] ∧ L.length ≤ 60 ∧ Q (.own (zD (List.replicate L.length 0))) os
def sp_go_on : FSp := fun os Q => ∃ (L : List Ln) (bl : List Nat) (fs : List Int) (p : Nat), os = [.d (linesD L), .d (natsD bl), .own (zD fs), .d (.int (p : Nat))] ∧ L.length ≤ 60 ∧ fs.length = L.length ∧
  ∀ ss : List Sp3, (∀ k d q, (k, d, q) ∈ ss ↔ (netOf L bl).Res (flo fs) (k, d) p q) → ss.length ≤ 2 * L.length → Q (.d (.list (ss.map gD))) os
theorem inD_nat {a : Nat} {bl : List Nat} : inD (.int (a : Nat)) (natD bl) = bl.contains a := by
  induction bl with
  | nil => rfl
  | cons b bl ih =>
    have e : inD (.int (a : Nat)) (natD (b :: bl)) = (PyData.eqv (.int (b : Nat)) (.int (a : Nat)) || inD (.int (a : Nat)) (natD bl)) := rfl
    rw [e, ih, List.contains_cons]
    congr 1
    show (((b : Nat) : Int) == ((a : Nat) : Int)) = (a == b)
    by_cases q : a = b
    · subst q; simp
    · have h1 : ¬ ((b : Nat) : Int) = ((a : Nat) : Int) := by omega
      rw [beq_eq_false_iff_ne.mpr h1, beq_eq_false_iff_ne.mpr q]
theorem flat_nat (bl : List Nat) : (natD bl).all flatD = true := by
  unfold natD
  rw [List.all_map]
  exact List.all_eq_true.mpr fun _ _ => rfl
theorem zD_len (l : List Int) : (zD l).length = l.length := List.length_map _
theorem zD_at {l : List Int} {i : Nat} {x : Int} (h : l[i]? = some x) : atI (zD l) (i : Int) = some (.int x) := atI_map h
theorem net_t {L : List Ln} {bl : List Nat} {k : Nat} {l : Ln} (h : L[k]? = some l) : (netOf L bl).t k = l.2.1 := by
  show (L.getD k ("", 0, 0)).2.1 = _
  rw [List.getD_eq_getElem?_getD, h]; rfl
theorem net_h {L : List Ln} {bl : List Nat} {k : Nat} {l : Ln} (h : L[k]? = some l) : (netOf L bl).h k = l.2.2 := by
  show (L.getD k ("", 0, 0)).2.2 = _
  rw [List.getD_eq_getElem?_getD, h]; rfl
theorem flo_at {fs : List Int} {k : Nat} {x : Int} (h : fs[k]? = some x) : flo fs k = x := by
  unfold flo
  rw [List.getD_eq_getElem?_getD, h]; rfl
theorem i2n {a b : Nat} : decide (((a : Nat) : Int) = ((b : Nat) : Int)) = decide (a = b) := by
  by_cases h : a = b
  · subst h; simp
  · rw [decide_eq_false h, decide_eq_false (by omega)]
/-! ### is_integer -/
abbrev s_is_integer : Stmt := topS 2
abbrev n_is_integer : List Str := ["thing"]
theorem sc_is_integer : FnScope n_is_integer ["thing"] (defScope s_is_integer) := ⟨rfl, rfl, rfl, by decide +kernel, rfl, by decide +kernel, by decide +kernel⟩
def r_is_integer : RS := (rRet (rO (rAndV (rIsi isInt (rN 0)) (rNotV (rIsi isBool (rN 0))))))
theorem q_is_integer {P : Program} {w : World} {K : Fg} {mg : Str → Option Value} {base : Heap} {f : Addr} (g : Gs K mg) (cdv : Value) (A : Around) (outer : List PySem.Env) (s : Shared) (H : Hp) (E : XK) (hr : Room 0 (A.deeper (envOfC "is_integer" (defScope s_is_integer) s.heap.objs.size f cdv))) :
    QSs (cxOf CX0 P w K mg base n_is_integer "is_integer" (defScope s_is_integer) f cdv A outer s H E).nox [] (defBody s_is_integer) r_is_integer :=
  (qss_one (qs_ret (QV.o (qv_and (qv_isi_int g.isinstance g.int (qp_var 0)) (qv_one (qv_not (qv_isi_bool g.isinstance g.bool (qp_var 0))))))))

/-! ### integer_within -/
abbrev s_integer_within : Stmt := topS 3
abbrev n_integer_within : List Str := ["thing", "low", "high"]
theorem sc_integer_within : FnScope n_integer_within ["thing", "low", "high"] (defScope s_integer_within) := ⟨rfl, rfl, rfl, by decide +kernel, rfl, by decide +kernel, by decide +kernel⟩
def r_integer_within : RS := (rRet (rO (rAndV (rD (rCall sp_is_integer (rACons (rN 0) rANil))) (rTV (rChain bLe bLe (rN 1) (rN 0) (rN 2))))))
theorem q_integer_within {P : Program} {w : World} {K : Fg} {mg : Str → Option Value} {base : Heap} {f : Addr} (g : Gs K mg) (h_is_integer : Has P w K mg base "is_integer" ["thing"] 1 sp_is_integer) (cdv : Value) (A : Around) (outer : List PySem.Env) (s : Shared) (H : Hp) (E : XK) (hr : Room 1 (A.deeper (envOfC "integer_within" (defScope s_integer_within) s.heap.objs.size f cdv))) :
    QSs (cxOf CX0 P w K mg base n_integer_within "integer_within" (defScope s_integer_within) f cdv A outer s H E).nox [] (defBody s_integer_within) r_integer_within :=
  (qss_one (qs_ret (QV.o (qv_and (QE.v (qe_call h_is_integer (hr.mono (by decide)) (qa_cons (qp_var 0) qa_nil))) (qv_one (qv_chain op_le dOrd_ok dOrd_mono op_le dOrd_ok dOrd_mono (qp_var 1) (qp_var 0) (qp_var 2)))))))

/-! ### tuple_of -/
abbrev s_tuple_of : Stmt := topS 4
abbrev n_tuple_of : List Str := ["thing", "many"]
theorem sc_tuple_of : FnScope n_tuple_of ["thing", "many"] (defScope s_tuple_of) := ⟨rfl, rfl, rfl, by decide +kernel, rfl, by decide +kernel, by decide +kernel⟩
def r_tuple_of : RS := (rRet (rO (rAndV (rIsi isTuple (rN 0)) (rTV (rCmp (dEq false) (rP (rD (rCB fLen (rACons (rN 0) rANil)))) (rN 1))))))
theorem q_tuple_of {P : Program} {w : World} {K : Fg} {mg : Str → Option Value} {base : Heap} {f : Addr} (g : Gs K mg) (cdv : Value) (A : Around) (outer : List PySem.Env) (s : Shared) (H : Hp) (E : XK) (hr : Room 0 (A.deeper (envOfC "tuple_of" (defScope s_tuple_of) s.heap.objs.size f cdv))) :
    QSs (cxOf CX0 P w K mg base n_tuple_of "tuple_of" (defScope s_tuple_of) f cdv A outer s H E).nox [] (defBody s_tuple_of) r_tuple_of :=
  (qss_one (qs_ret (QV.o (qv_and (qv_isi_tuple g.isinstance g.tuple (qp_var 0)) (qv_one (qv_eq hr.units ((QE.v (qe_len g.len (qa_cons (qp_var 0) qa_nil)))).p (qp_var 1)))))))

/-! ### first_flow -/
abbrev s_first_flow : Stmt := topS 6
abbrev n_first_flow : List Str := ["lines"]
theorem sc_first_flow : FnScope n_first_flow ["lines"] (defScope s_first_flow) := ⟨rfl, rfl, rfl, by decide +kernel, rfl, by decide +kernel, by decide +kernel⟩
def r_first_flow : RS := (rRet (rRepL (rLst (rCons (rC (.int 0)) rNil)) (rD (rCB fLen (rACons (rN 0) rANil)))))
theorem q_first_flow {P : Program} {w : World} {K : Fg} {mg : Str → Option Value} {base : Heap} {f : Addr} (g : Gs K mg) (cdv : Value) (A : Around) (outer : List PySem.Env) (s : Shared) (H : Hp) (E : XK) (hr : Room 0 (A.deeper (envOfC "first_flow" (defScope s_first_flow) s.heap.objs.size f cdv))) :
    QSs (cxOf CX0 P w K mg base n_first_flow "first_flow" (defScope s_first_flow) f cdv A outer s H E).nox [] (defBody s_first_flow) r_first_flow :=
  (qss_one (qs_ret (qe_repL (qe_lst (ql_cons qv_int ql_nil)) (QE.v (qe_len g.len (qa_cons (qp_var 0) qa_nil))))))

/-! ### go_on -/
abbrev s_go_on : Stmt := topS 7
abbrev n_go_on : List Str := ["lines", "blanks", "flow", "place", "found", "number", "_", "tail", "head"]
theorem sc_go_on : FnScope n_go_on ["lines", "blanks", "flow", "place"] (defScope s_go_on) := ⟨rfl, rfl, rfl, by decide +kernel, rfl, by decide +kernel, by decide +kernel⟩
def r_go_on : RS := (rSeq (rSet 4 (rLst rNil))
  (rSeq (rForT (rEnum (rVar 0)) 2 (rGcons (rGn 5) (rGcons (rGt 3 (rGcons (rGn 6) (rGcons (rGn 7) (rGcons (rGn 8) rGnil)))) rGnil)) (rIfS (rCmp (dIn true) (rN 5) (rN 1)) (rSeq (rIfS (rAnd (rCmp (dEq false) (rN 7) (rN 3)) (rCmp bLt (rP (rD (rOp dIx (rN 2) (rN 5)))) (rP (rC (.int 1))))) (rDrop (rApp 4 (rTup (rCons (rVar 5) (rCons (rC (.int 1)) (rCons (rVar 8) rNil)))))) rNext)
  (rIfS (rAnd (rCmp (dEq false) (rN 8) (rN 3)) (rCmp bGt (rP (rD (rOp dIx (rN 2) (rN 5)))) (rP (rNeg (rC (.int 1)))))) (rDrop (rApp 4 (rTup (rCons (rVar 5) (rCons (rNeg (rC (.int 1))) (rCons (rVar 7) rNil)))))) rNext)) rNext))
  (rRet (rO (rVar 4)))))
theorem q_go_on {P : Program} {w : World} {K : Fg} {mg : Str → Option Value} {base : Heap} {f : Addr} (g : Gs K mg) (cdv : Value) (A : Around) (outer : List PySem.Env) (s : Shared) (H : Hp) (E : XK) (hr : Room 0 (A.deeper (envOfC "go_on" (defScope s_go_on) s.heap.objs.size f cdv))) :
    QSs (cxOf CX0 P w K mg base n_go_on "go_on" (defScope s_go_on) f cdv A outer s H E).nox [2] (defBody s_go_on) r_go_on :=
  (qss_cons (qs_set 4 sc_go_on.nd (qe_lst ql_nil))
  (qss_cons (qs_forT 2 PassesOwn.never rfl (qf_enum g.enumerate (qv_var 0)) (qgs_cons (qg_name 5 sc_go_on.nd) (qgs_cons (qg_tup 3 rfl (qgs_cons (qg_name 6 sc_go_on.nd) (qgs_cons (qg_name 7 sc_go_on.nd) (qgs_cons (qg_name 8 sc_go_on.nd) qgs_nil)))) qgs_nil)) (qss_one (qs_if (qt_notin (qp_var 5) (qp_var 1)) (qss_cons (qs_if (QW.t (qw_and (qt_eq hr.units (qp_var 7) (qp_var 3)) (qw_and1 (qt_lt ((qv_ix (qp_var 2) (qp_var 5))).p (qv_int).p)))) (qss_one (qs_expr (qe_append 4 (qv_tup (ql_cons (qv_var 5) (ql_cons qv_int (ql_cons (qv_var 8) ql_nil))))))) qss_nil)
  (qss_one (qs_if (QW.t (qw_and (qt_eq hr.units (qp_var 8) (qp_var 3)) (qw_and1 (qt_gt ((qv_ix (qp_var 2) (qp_var 5))).p ((qv_neg qv_int)).p)))) (qss_one (qs_expr (qe_append 4 (qv_tup (ql_cons (qv_var 5) (ql_cons (qv_neg qv_int) (ql_cons (qv_var 7) ql_nil))))))) qss_nil))) qss_nil)))
  (qss_one (qs_ret (QV.o (qv_var 4))))))

theorem getAt {α : Type} {xs : List α} {i : Nat} (h : i < xs.length) : ∃ x, xs[i]? = some x ∧ x ∈ xs := ⟨_, List.getElem?_eq_getElem h, List.getElem_mem h⟩
theorem m_is_integer (os : List O) (Q : O → List O → Prop) (h : sp_is_integer os Q) : Ends r_is_integer n_is_integer os Q := by
  obtain ⟨n, rfl, q⟩ := h
  walk_at "go"
  exact q
theorem m_integer_within (os : List O) (Q : O → List O → Prop) (h : sp_integer_within os Q) : Ends r_integer_within n_integer_within os Q := by
  obtain ⟨n, a, b, rfl, q⟩ := h
  walk_at "go"
  refine ⟨n, rfl, ?_⟩
  walk_at "go"
  refine decI (fun h => ?_) (fun h => ?_)
  · have h : decide (a ≤ n) = true := h
    walk_at "go"
    have e : decide (n ≤ b) = decide (a ≤ n ∧ n ≤ b) := by simp [of_decide_eq_true h]
    rw [← e] at q
    exact q
  · have h : ¬ decide (a ≤ n) = true := h
    walk_at "go"
    have e : false = decide (a ≤ n ∧ n ≤ b) := by simp at h; simp; omega
    rw [← e] at q
    exact q
theorem m_tuple_of (os : List O) (Q : O → List O → Prop) (h : sp_tuple_of os Q) : Ends r_tuple_of n_tuple_of os Q := by
  obtain ⟨xs, n, rfl, q⟩ := h
  walk_at "go"
  exact q
theorem rep_one (n : Nat) : (List.replicate n [PyData.int 0]).flatten = zD (List.replicate n 0) := by
  induction n with
  | zero => rfl
  | succ n ih => rw [List.replicate_succ, List.flatten_cons, ih]; rfl
theorem m_first_flow (os : List O) (Q : O → List O → Prop) (h : sp_first_flow os Q) : Ends r_first_flow n_first_flow os Q := by
  obtain ⟨L, rfl, hl, q⟩ := h
  have e : (L.map lineD).length = L.length := List.length_map _
  walk_at "go"
  · rw [e, Int.toNat_natCast, rep_one]; exact q
  · rw [e, Int.toNat_natCast, sizeLine_eq]; show 1 * _ ≤ _; omega
  · rw [e]; omega
  · rw [e]; omega
  · exact (by decide : 1 ≤ sizeLine)
def go2 : RS := (rIfS
                      (rAnd (rCmp (dEq false) (rN 8) (rN 3))
                        (rCmp bGt (rP (rD (rOp dIx (rN 2) (rN 5)))) (rP (rNeg (rC (PyData.int 1))))))
                      (rDrop
                        (rApp 4 (rTup (rCons (rVar 5) (rCons (rNeg (rC (PyData.int 1))) (rCons (rVar 7) rNil))))))
                      rNext)
theorem gD_snoc (ss : List Sp3) (s : Sp3) : (ss.map gD) ++ [gD s] = (ss ++ [s]).map gD := by rw [List.map_append]; rfl
theorem m_go_on (os : List O) (Q : O → List O → Prop) (h : sp_go_on os Q) : Ends r_go_on n_go_on os Q := by
  obtain ⟨L, bl, fs, p, rfl, hl, hf, q⟩ := h
  walk_at "go"
  · refine ⟨fun i e => ∃ ss o5 o6 o7 o8, e = [some (.d (linesD L)), some (.d (natsD bl)), some (.own (zD fs)), some (.d (.int (p : Nat))), some (.own (ss.map gD)), o5, o6, o7, o8] ∧ ss.length ≤ 2 * i ∧ ∀ k d q, (k, d, q) ∈ ss ↔ k < i ∧ (netOf L bl).Res (flo fs) (k, d) p q, ⟨[], none, none, none, none, rfl, Nat.le_refl _, fun k d q => by simp⟩, ?_, ?_⟩
    · rintro i xs e hx ⟨ss, o5, o6, o7, o8, rfl, hz, hs⟩
      obtain ⟨l, hli, rfl⟩ := enumD_at hx
      have hi : i < L.length := (List.getElem?_eq_some_iff.mp hli).1
      obtain ⟨x, hxf, _⟩ := getAt (show i < fs.length by omega)
      have et := net_t (bl := bl) hli
      have eh := net_h (bl := bl) hli
      have ef := flo_at hxf
      have other : ∀ {ss' : List Sp3}, (∀ k d q, (k, d, q) ∈ ss' ↔ k < i ∧ (netOf L bl).Res (flo fs) (k, d) p q) → ∀ k d q, k ≠ i → ((k, d, q) ∈ ss' ↔ k < i + 1 ∧ (netOf L bl).Res (flo fs) (k, d) p q) := fun h k d q hk => by
        rw [h]
        constructor
        · exact fun ⟨a, b⟩ => ⟨by omega, b⟩
        · exact fun ⟨a, b⟩ => ⟨by omega, b⟩
      refine ⟨rfl, ?_⟩
      walk_at "go"
      · refine decI (fun h => ?_) (fun h => ?_)
        · have h : (!inD (.int (i : Nat)) (natD bl)) = true := h
          rw [inD_nat] at h
          have hb : (netOf L bl).bl i = false := by show bl.contains i = false; simpa using h
          -- the second test
          have two : ∀ (ss1 : List Sp3) (c : Pf.Env → Prop) (c2 : O → Pf.Env → Prop) (c3 c4 : Pf.Env → Prop), (∀ ss2 : List Sp3, ss2.length ≤ 2 * (i + 1) → (∀ k d q, (k, d, q) ∈ ss2 ↔ k < i + 1 ∧ (netOf L bl).Res (flo fs) (k, d) p q) → c [some (.d (linesD L)), some (.d (natsD bl)), some (.own (zD fs)), some (.d (.int (p : Nat))), some (.own (ss2.map gD)), some (.d (.int (i : Nat))), some (.d (.str l.1)), some (.d (.int (l.2.1 : Nat))), some (.d (.int (l.2.2 : Nat)))]) → ss1.length ≤ 2 * i + 1 →
              (∀ k d q, (k, d, q) ∈ ss1 ↔ (k < i ∧ (netOf L bl).Res (flo fs) (k, d) p q) ∨ (k = i ∧ d = 1 ∧ (netOf L bl).Res (flo fs) (k, d) p q)) →
              go2 { nx := c, rt := c2, bk := c3, ct := c4 } [some (.d (linesD L)), some (.d (natsD bl)), some (.own (zD fs)), some (.d (.int (p : Nat))), some (.own (ss1.map gD)), some (.d (.int (i : Nat))), some (.d (.str l.1)), some (.d (.int (l.2.1 : Nat))), some (.d (.int (l.2.2 : Nat)))] := by
            intro ss1 c c2 c3 c4 fin hl1 hs1
            have no : ¬ (l.2.2 = p ∧ -1 < x) → c [some (.d (linesD L)), some (.d (natsD bl)), some (.own (zD fs)), some (.d (.int (p : Nat))), some (.own (ss1.map gD)), some (.d (.int (i : Nat))), some (.d (.str l.1)), some (.d (.int (l.2.1 : Nat))), some (.d (.int (l.2.2 : Nat)))] := fun hn => by
              refine fin ss1 (by omega) fun k d q => ?_
              rw [hs1]
              constructor
              · rintro (⟨a, b⟩ | ⟨a, b, c⟩)
                · exact ⟨by omega, b⟩
                · exact ⟨by omega, c⟩
              · rintro ⟨a, b⟩
                by_cases hk : k = i
                · subst hk
                  rcases b.2.2.1 with ⟨g, _⟩ | ⟨g, g2, _⟩
                  · exact .inr ⟨rfl, g, b⟩
                  · have := b.2.2.2.2 g
                    dsimp only at this g2
                    rw [eh] at g2
                    rw [ef] at this
                    exact absurd ⟨g2, this⟩ hn
                · exact .inl ⟨by omega, b⟩
            walk_at "go"
            refine decI (fun h => ?_) (fun h => ?_)
            · have h : decide (((l.2.2 : Nat) : Int) = ((p : Nat) : Int)) = true := h
              rw [i2n] at h
              have h := of_decide_eq_true h
              walk_at "go"
              refine ⟨_, zD_at hxf, ?_⟩
              walk_at "go"
              refine decI (fun h2 => ?_) (fun h2 => ?_)
              · have h2 : decide (-1 < x) = true := h2
                have h2 := of_decide_eq_true h2
                walk_at "go"
                · have e : (ss1.map gD) ++ [PyData.tuple [.int (i : Nat), .int (-1), .int (l.2.1 : Nat)]] = (ss1 ++ [(i, -1, l.2.1)]).map gD := gD_snoc ss1 (i, -1, l.2.1)
                  rw [e]
                  refine fin (ss1 ++ [(i, -1, l.2.1)]) (by rw [List.length_append, List.length_singleton]; omega) fun k d q => ?_
                  rw [List.mem_append, hs1, List.mem_singleton]
                  constructor
                  · rintro ((⟨a, b⟩ | ⟨a, b, c⟩) | a)
                    · exact ⟨by omega, b⟩
                    · exact ⟨by omega, c⟩
                    · cases a
                      exact ⟨by omega, hi, hb, .inr ⟨rfl, eh.trans h, et⟩, fun z => by simp at z, fun _ => by show -1 < flo fs i; rw [ef]; exact h2⟩
                  · rintro ⟨a, b⟩
                    by_cases hk : k = i
                    · subst hk
                      rcases b.2.2.1 with ⟨g, _⟩ | ⟨g, g2, g3⟩
                      · exact .inl (.inr ⟨rfl, g, b⟩)
                      · dsimp only at g g3
                        rw [et] at g3
                        rw [g, g3]
                        exact .inr rfl
                    · exact .inl (.inl ⟨by omega, b⟩)
                · rw [List.length_map, sizeLine_eq]; omega
                · exact (by decide : 3 ≤ sizeLine)
              · have h2 : ¬ decide (-1 < x) = true := h2
                walk_at "go"
                exact no fun z => h2 (decide_eq_true z.2)
            · have h : ¬ decide (((l.2.2 : Nat) : Int) = ((p : Nat) : Int)) = true := h
              rw [i2n] at h
              walk_at "go"
              exact no fun z => h (decide_eq_true z.1)
          have fin2 : ∀ ss2 : List Sp3, ss2.length ≤ 2 * (i + 1) → (∀ k d q, (k, d, q) ∈ ss2 ↔ k < i + 1 ∧ (netOf L bl).Res (flo fs) (k, d) p q) → ∃ (ss : List Sp3) (o5 o6 o7 o8 : Option O), [some (O.d (linesD L)), some (.d (natsD bl)), some (.own (zD fs)), some (.d (.int (p : Nat))), some (.own (ss2.map gD)), some (.d (.int (i : Nat))), some (.d (.str l.1)), some (.d (.int (l.2.1 : Nat))), some (.d (.int (l.2.2 : Nat)))] = [some (.d (linesD L)), some (.d (natsD bl)), some (.own (zD fs)), some (.d (.int (p : Nat))), some (.own (ss.map gD)), o5, o6, o7, o8] ∧ ss.length ≤ 2 * (i + 1) ∧ ∀ k d q, (k, d, q) ∈ ss ↔ k < i + 1 ∧ (netOf L bl).Res (flo fs) (k, d) p q := fun ss2 a b => ⟨ss2, _, _, _, _, rfl, a, b⟩
          have no : ¬ (l.2.1 = p ∧ x < 1) → ∀ k d q, (k, d, q) ∈ ss ↔ (k < i ∧ (netOf L bl).Res (flo fs) (k, d) p q) ∨ (k = i ∧ d = 1 ∧ (netOf L bl).Res (flo fs) (k, d) p q) := fun hn k d q => by
            rw [hs]
            constructor
            · exact .inl
            · rintro (a | ⟨a, b, c⟩)
              · exact a
              · subst a b
                rcases c.2.2.1 with ⟨g, g2, _⟩ | ⟨g, _⟩
                · have := c.2.2.2.1 g
                  dsimp only at this g2
                  rw [et] at g2
                  rw [ef] at this
                  exact absurd ⟨g2, this⟩ hn
                · simp at g
          walk_at "go"
          refine decI (fun h => ?_) (fun h => ?_)
          · have h : decide (((l.2.1 : Nat) : Int) = ((p : Nat) : Int)) = true := h
            rw [i2n] at h
            have h := of_decide_eq_true h
            walk_at "go"
            refine ⟨_, zD_at hxf, ?_⟩
            walk_at "wh"
            refine decI (fun h2 => ?_) (fun h2 => ?_)
            · have h2 : decide (x < 1) = true := h2
              have h2 := of_decide_eq_true h2
              walk_at "wh"
              refine ⟨(by decide : 3 ≤ sizeLine), ?_⟩
              walk_at "wh"
              refine ⟨by rw [List.length_map, sizeLine_eq]; omega, ?_⟩
              have e2 : ∀ k d q, (k, d, q) ∈ ss ++ [(i, 1, l.2.2)] ↔ (k < i ∧ (netOf L bl).Res (flo fs) (k, d) p q) ∨ (k = i ∧ d = 1 ∧ (netOf L bl).Res (flo fs) (k, d) p q) := fun k d q => by
                rw [List.mem_append, hs, List.mem_singleton]
                constructor
                · rintro (⟨a, b⟩ | a)
                  · exact .inl ⟨by omega, b⟩
                  · cases a
                    exact .inr ⟨rfl, rfl, hi, hb, .inl ⟨rfl, et.trans h, eh⟩, fun _ => by show flo fs i < 1; rw [ef]; exact h2, fun z => by simp at z⟩
                · rintro (⟨a, b⟩ | ⟨a, b, c⟩)
                  · exact .inl ⟨a, b⟩
                  · subst a b
                    rcases c.2.2.1 with ⟨_, _, g⟩ | ⟨g, _⟩
                    · dsimp only at g
                      rw [eh] at g
                      rw [g]
                      exact .inr rfl
                    · simp at g
              have e : (ss ++ [(i, (1 : Int), l.2.2)]).map gD = (ss.map gD) ++ [PyData.tuple [.int (i : Nat), .int 1, .int (l.2.2 : Nat)]] := (gD_snoc ss (i, 1, l.2.2)).symm
              have t := two (ss ++ [(i, 1, l.2.2)])
              rw [e] at t
              exact t _ _ _ _ fin2 (by rw [List.length_append, List.length_singleton]; omega) e2
            · have h2 : ¬ decide (x < 1) = true := h2
              exact two ss _ _ _ _ fin2 (by omega) (no fun z => h2 (decide_eq_true z.2))
          · have h : ¬ decide (((l.2.1 : Nat) : Int) = ((p : Nat) : Int)) = true := h
            rw [i2n] at h
            exact two ss _ _ _ _ fin2 (by omega) (no fun z => h (decide_eq_true z.1))
        · have h : ¬ (!inD (.int (i : Nat)) (natD bl)) = true := h
          rw [inD_nat] at h
          have hb : (netOf L bl).bl i = true := by show bl.contains i = true; simpa using h
          walk_at "wh"
          refine ⟨ss, _, _, _, _, rfl, by omega, fun k d q => ?_⟩
          by_cases hk : k = i
          · subst hk
            rw [hs]
            constructor
            · exact fun ⟨a, _⟩ => by omega
            · rintro ⟨_, _, b, _⟩
              dsimp only at b
              rw [hb] at b
              cases b
          · exact other hs k d q hk
      · exact flat_nat bl
      · rfl
      · rfl
    · rintro e ⟨ss, o5, o6, o7, o8, rfl, hz, hs⟩
      have el : (enumD (L.map lineD)).length = L.length := by unfold enumD; rw [List.length_mapIdx, List.length_map]
      have hs' : ∀ k d q, (k, d, q) ∈ ss ↔ k < L.length ∧ (netOf L bl).Res (flo fs) (k, d) p q := fun k d q => by rw [hs, el]
      rw [el] at hz
      walk_at "go"
      exact q ss (fun k d q => by rw [hs']; exact ⟨fun z => z.2, fun z => ⟨z.1, z⟩⟩) hz
  · exact Nat.zero_le _
theorem f_is_integer {P : Program} {w : World} {K : Fg} {mg : Str → Option Value} {base : Heap} {f : Addr} {fd : FuncData} (g : Gs K mg) (F : Fun K "is_integer" "is_integer" s_is_integer f fd) : FnOk P w K mg base CX0 1 f fd ["thing"] (SpOf K sp_is_integer) :=
  fn_ok F sc_is_integer [] (fun cdv A outer s H E hr => q_is_integer g cdv A outer s H E hr) (by walk_at "len") (by walk_at "keep") m_is_integer
theorem mono_is_integer : sp_is_integer.Mono := by walk_at "mono"

theorem f_integer_within {P : Program} {w : World} {K : Fg} {mg : Str → Option Value} {base : Heap} {f : Addr} {fd : FuncData} (g : Gs K mg) (h_is_integer : Has P w K mg base "is_integer" ["thing"] 1 sp_is_integer) (F : Fun K "integer_within" "integer_within" s_integer_within f fd) : FnOk P w K mg base CX0 2 f fd ["thing", "low", "high"] (SpOf K sp_integer_within) :=
  fn_ok F sc_integer_within [] (fun cdv A outer s H E hr => q_integer_within g h_is_integer cdv A outer s H E hr) (by walk_at "len") (by walk_at "keep") m_integer_within
theorem mono_integer_within : sp_integer_within.Mono := by walk_at "mono"

theorem f_tuple_of {P : Program} {w : World} {K : Fg} {mg : Str → Option Value} {base : Heap} {f : Addr} {fd : FuncData} (g : Gs K mg) (F : Fun K "tuple_of" "tuple_of" s_tuple_of f fd) : FnOk P w K mg base CX0 1 f fd ["thing", "many"] (SpOf K sp_tuple_of) :=
  fn_ok F sc_tuple_of [] (fun cdv A outer s H E hr => q_tuple_of g cdv A outer s H E hr) (by walk_at "len") (by walk_at "keep") m_tuple_of
theorem mono_tuple_of : sp_tuple_of.Mono := by walk_at "mono"

theorem f_first_flow {P : Program} {w : World} {K : Fg} {mg : Str → Option Value} {base : Heap} {f : Addr} {fd : FuncData} (g : Gs K mg) (F : Fun K "first_flow" "first_flow" s_first_flow f fd) : FnOk P w K mg base CX0 1 f fd ["lines"] (SpOf K sp_first_flow) :=
  fn_ok F sc_first_flow [] (fun cdv A outer s H E hr => q_first_flow g cdv A outer s H E hr) (by walk_at "len") (by walk_at "keep") m_first_flow
theorem mono_first_flow : sp_first_flow.Mono := by walk_at "mono"

theorem f_go_on {P : Program} {w : World} {K : Fg} {mg : Str → Option Value} {base : Heap} {f : Addr} {fd : FuncData} (g : Gs K mg) (F : Fun K "go_on" "go_on" s_go_on f fd) : FnOk P w K mg base CX0 1 f fd ["lines", "blanks", "flow", "place"] (SpOf K sp_go_on) :=
  fn_ok F sc_go_on [2] (fun cdv A outer s H E hr => q_go_on g cdv A outer s H E hr) (by walk_at "len") (by walk_at "keep") m_go_on
theorem mono_go_on : sp_go_on.Mono := by walk_at "mono"

end K76
set_option Elab.async false
set_option linter.all false
set_option maxRecDepth 100000
set_option maxHeartbeats 1000000
set_option exponentiation.threshold 20000
set_option pp.deepTerms false
set_option pp.maxSteps 500
namespace K76
open PySem PySem.Spec PyProof.Rows L2 Pf
local macro_rules | `(tactic| walk_at "go") => `(tactic| (conv => whnf) <;> repeat ((first | refine atE rfl ?_ | refine andR ?_ ?_); (conv => whnf)))
local macro_rules | `(tactic| walk_at "wh") => `(tactic| conv => whnf)
local macro_rules | `(tactic| walk_at "len") => `(tactic| (intro os Q h; (repeat (obtain ⟨_, h⟩ := h)); subst_vars; rfl))
local macro_rules | `(tactic| walk_at "keep") => `(tactic| (intro os Q h; (repeat (obtain ⟨_, h⟩ := h)); subst_vars; simp [keepOk]))
local macro_rules | `(tactic| walk_at "mono") => `(tactic| (intro os k k' f; repeat (first | exact f _ _ | refine Exists.imp fun _ => ?_ | refine And.imp_right ?_ | refine forall_imp fun _ => ?_)))
/-! the search -/
open Fl (Came Ent)
def valD : Option (Nat × Int × Nat) → D
  | none => .none
  | some s => gD s
def entD (y : Ent) : Key × D := (.inl (y.1 : Nat), valD y.2)
def keysOf (kvs : List Ent) : List Nat := kvs.map (·.1)
def sp_search : FSp := fun os Q => ∃ (L : List Ln) (bl : List Nat) (fs : List Int) (b : Nat), os = [.d (linesD L), .d (natsD bl), .own (zD fs), .d (.int (b : Nat))] ∧ L.length ≤ 60 ∧ fs.length = L.length ∧ (∀ l ∈ L, l.2.1 < 12 ∧ l.2.2 < 12) ∧ b < 12 ∧
  ∀ kvs : List Ent, Came (netOf L bl) (flo fs) b kvs → kvs.length ≤ 12 → (∀ s p q, (netOf L bl).Res (flo fs) s p q → p ∈ keysOf kvs → q ∈ keysOf kvs) → Q (.dct (kvs.map entD)) os
/-! ### search -/
abbrev s_search : Stmt := topS 8
abbrev n_search : List Str := ["lines", "blanks", "flow", "begin", "came", "line", "at", "place", "number", "step", "other"]
theorem sc_search : FnScope n_search ["lines", "blanks", "flow", "begin"] (defScope s_search) := ⟨rfl, rfl, rfl, by decide +kernel, rfl, by decide +kernel, by decide +kernel⟩
def r_search : RS := (rSeq (rSet 4 (rDisp (rVar 3) (rC .none)))
  (rSeq (rSet 5 (rLst (rCons (rVar 3) rNil)))
  (rSeq (rSet 6 (rO (rC (.int 0))))
  (rSeq (rWhile (rCmp bLt (rN 6) (rP (rD (rCB fLen (rACons (rN 5) rANil))))) (rSeq (rSet 7 (rO (rD (rOp dIx (rN 5) (rN 6)))))
  (rSeq (rAug 6 (fun i j => i + j) (rC (.int 1)))
  (rFor (rFs (rD (rCall sp_go_on (rACons (rN 0) (rACons (rN 1) (rACons (rN 2) (rACons (rN 7) rANil))))))) (rGt 3 (rGcons (rGn 8) (rGcons (rGn 9) (rGcons (rGn 10) rGnil)))) (rIfS (rDIn true 4 (rVar 10)) (rSeq (rDPut 4 (rTup (rCons (rVar 8) (rCons (rVar 9) (rCons (rVar 7) rNil)))) (rVar 10))
  (rDrop (rApp 5 (rVar 10)))) rNext)))))
  (rRet (rMv 4))))))
theorem q_search {P : Program} {w : World} {K : Fg} {mg : Str → Option Value} {base : Heap} {f : Addr} (g : Gs K mg) (h_go_on : Has P w K mg base "go_on" ["lines", "blanks", "flow", "place"] 1 sp_go_on) (cdv : Value) (A : Around) (outer : List PySem.Env) (s : Shared) (H : Hp) (E : XK) (hr : Room 1 (A.deeper (envOfC "search" (defScope s_search) s.heap.objs.size f cdv))) :
    QSs (cxOf CX0 P w K mg base n_search "search" (defScope s_search) f cdv A outer s H E).nox [2] (defBody s_search) r_search :=
  (qss_cons (qs_set 4 sc_search.nd (qe_disp (qv_var 3) qv_non))
  (qss_cons (qs_set 5 sc_search.nd (qe_lst (ql_cons (qv_var 3) ql_nil)))
  (qss_cons (qs_set 6 sc_search.nd (QV.o qv_int))
  (qss_cons (qs_while PassesOwn.never (qt_lt (qp_var 6) ((QE.v (qe_len g.len (qa_cons (qp_var 5) qa_nil)))).p) (qss_cons (qs_set 7 sc_search.nd (QV.o (qv_ix (qp_var 5) (qp_var 6))))
  (qss_cons (qs_aug ip_add 6 sc_search.nd qv_int)
  (qss_one (qs_for PassesOwn.never rfl (qf_seq (QE.v (qe_call h_go_on (hr.mono (by decide)) (qa_cons (qp_var 0) (qa_cons (qp_var 1) (qa_cons (qp_var 2) (qa_cons (qp_var 7) qa_nil))))))) (qg_tup 3 rfl (qgs_cons (qg_name 8 sc_search.nd) (qgs_cons (qg_name 9 sc_search.nd) (qgs_cons (qg_name 10 sc_search.nd) qgs_nil)))) (qss_one (qs_if (qt_dnotin hr.units 4 (qv_var 10)) (qss_cons (qs_dput hr.units 4 (qv_tup (ql_cons (qv_var 8) (ql_cons (qv_var 9) (ql_cons (qv_var 7) ql_nil)))) (qv_var 10))
  (qss_one (qs_expr (qe_append 5 (qv_var 10))))) qss_nil)))))))
  (qss_one (qs_ret (qe_mv 4)))))))

theorem nodup_lt : ∀ (n : Nat) (l : List Nat), l.Nodup → (∀ x ∈ l, x < n) → l.length ≤ n
  | 0, [], _, _ => Nat.le_refl _
  | 0, x :: l, _, h => absurd (h x List.mem_cons_self) (by omega)
  | n + 1, l, nd, h => by
    have h1 := nodup_lt n (l.filter fun x => decide (x ≠ n)) (nd.filter _) fun x m => by
      have := List.mem_filter.mp m
      have h2 := h x this.1
      have h3 : x ≠ n := of_decide_eq_true this.2
      omega
    have h2 : l.length ≤ (l.filter fun x => decide (x ≠ n)).length + 1 := by
      clear h1 h
      induction l with
      | nil => simp
      | cons x l ih =>
        rw [List.nodup_cons] at nd
        by_cases e : x = n
        · subst e
          have : (x :: l).filter (fun y => decide (y ≠ x)) = l := by
            rw [List.filter_cons_of_neg (by simp)]
            refine List.filter_eq_self.mpr fun y hy => ?_
            exact decide_eq_true fun z => nd.1 (z ▸ hy)
          rw [this, List.length_cons]
          exact Nat.le_refl _
        · rw [List.filter_cons_of_pos (by simpa using e), List.length_cons, List.length_cons]
          have := ih nd.2
          omega
    omega
theorem came_lt {L : List Ln} {bl : List Nat} {f : Nat → Int} {b n : Nat} {kvs : List Ent} (c : Came (netOf L bl) f b kvs) (hL : ∀ l ∈ L, l.2.1 < n ∧ l.2.2 < n) (hb : b < n) : ∀ x ∈ keysOf kvs, x < n := by
  unfold keysOf
  induction c with
  | base => intro x hx; rw [List.map_singleton, List.mem_singleton] at hx; rw [hx]; exact hb
  | snoc c _ r _ ih =>
    intro x hx
    rw [List.map_append, List.mem_append] at hx
    rcases hx with hx | hx
    · exact ih x hx
    · rw [List.map_singleton, List.mem_singleton] at hx
      subst hx
      obtain ⟨r1, _, r3, _⟩ := r
      obtain ⟨l, hl, hm⟩ := getAt (show _ < L.length from r1)
      have := hL l hm
      dsimp only at hl
      rcases r3 with ⟨_, _, z⟩ | ⟨_, _, z⟩
      · dsimp only at z
        rw [net_h hl] at z
        omega
      · dsimp only at z
        rw [net_t hl] at z
        omega
theorem dec_inl {a b : Nat} : decide ((Sum.inl ((a : Nat) : Int) : Key) = .inl ((b : Nat) : Int)) = decide (a = b) := by
  by_cases h : a = b
  · subst h; simp
  · rw [decide_eq_false h, decide_eq_false]
    intro z
    have := Sum.inl.inj z
    omega
theorem findD_ent {kvs : List Ent} {o : Nat} : findD (kvs.map entD) (.inl (o : Nat)) = ((kvs.find? fun z => decide (z.1 = o)).map fun y => valD y.2) := by
  unfold findD
  rw [List.find?_map, Option.map_map]
  have e : (fun kv : Key × D => decide (kv.1 = .inl ((o : Nat) : Int))) ∘ entD = fun z : Ent => decide (z.1 = o) := funext fun z => dec_inl
  rw [e]
  rfl
theorem find_some {kvs : List Ent} {o : Nat} : (findD (kvs.map entD) (.inl (o : Nat))).isSome = decide (o ∈ keysOf kvs) := by
  rw [findD_ent, Option.isSome_map]
  by_cases h : o ∈ keysOf kvs
  · rw [decide_eq_true h, List.find?_isSome]
    obtain ⟨y, hy, e⟩ := List.mem_map.mp h
    exact ⟨y, hy, decide_eq_true e⟩
  · rw [decide_eq_false h]
    rw [Bool.eq_false_iff, ne_eq, List.find?_isSome]
    rintro ⟨y, hy, e⟩
    exact h (List.mem_map.mpr ⟨y, hy, of_decide_eq_true e⟩)
theorem put_ent {kvs : List Ent} {o : Nat} {v : Option (Nat × Int × Nat)} (h : o ∉ keysOf kvs) : putD (kvs.map entD) (.inl (o : Nat)) (valD v) = (kvs ++ [(o, v)]).map entD := by
  unfold putD
  rw [if_neg, List.map_append]
  · rfl
  · rw [List.any_map, List.any_eq_true]
    rintro ⟨y, hy, e⟩
    have e : decide ((Sum.inl ((y.1 : Nat) : Int) : Key) = .inl ((o : Nat) : Int)) = true := e
    rw [dec_inl] at e
    exact h (List.mem_map.mpr ⟨y, hy, of_decide_eq_true e⟩)
theorem m_search (os : List O) (Q : O → List O → Prop) (h : sp_search os Q) : Ends r_search n_search os Q := by
  obtain ⟨L, bl, fs, b, rfl, hl, hf, hL, hb, q⟩ := h
  have few : ∀ {kvs : List Ent}, Came (netOf L bl) (flo fs) b kvs → kvs.length ≤ 12 := fun c => by
    have := nodup_lt 12 _ c.nodup (came_lt c hL hb)
    rwa [List.length_map] at this
  walk_at "go"
  · refine ⟨fun m e => ∃ kvs a o7 o8 o9 o10, e = [some (.d (linesD L)), some (.d (natsD bl)), some (.own (zD fs)), some (.d (.int (b : Nat))), some (.dct (kvs.map entD)), some (.own (natD (keysOf kvs))), some (.d (.int (a : Nat))), o7, o8, o9, o10] ∧ Came (netOf L bl) (flo fs) b kvs ∧ a ≤ kvs.length ∧
      (∀ i y, i < a → kvs[i]? = some y → ∀ s q, (netOf L bl).Res (flo fs) s y.1 q → q ∈ keysOf kvs) ∧ m + a = 12, ⟨12, [(b, none)], 0, none, none, none, none, rfl, .base, Nat.zero_le _, fun i y hi => absurd hi (by omega), rfl⟩, ?_⟩
    rintro m e ⟨kvs, a, o7, o8, o9, o10, rfl, hc, ha, hcl, hm⟩
    have kl : (natD (keysOf kvs)).length = kvs.length := by rw [show (natD (keysOf kvs)).length = (keysOf kvs).length from List.length_map _]; exact List.length_map _
    walk_at "go"
    refine decI (fun h => ?_) (fun h => ?_)
    · have h : decide (((a : Nat) : Int) < ((natD (keysOf kvs)).length : Nat)) = true := h
      have h := of_decide_eq_true h
      rw [kl] at h
      have hlt : a < kvs.length := by omega
      obtain ⟨y, hy, _⟩ := getAt hlt
      have hk : (keysOf kvs)[a]? = some y.1 := by unfold keysOf; rw [List.getElem?_map, hy]; rfl
      have := few hc
      walk_at "go"
      refine ⟨_, atI_map hk, ?_⟩
      walk_at "wh"
      refine ⟨rfl, ?_⟩
      walk_at "wh"
      refine ⟨L, bl, fs, y.1, rfl, hl, hf, fun ss hs hsl => ?_⟩
      walk_at "go"
      refine ⟨fun j e => ∃ kvs2 o8 o9 o10, e = [some (.d (linesD L)), some (.d (natsD bl)), some (.own (zD fs)), some (.d (.int (b : Nat))), some (.dct (kvs2.map entD)), some (.own (natD (keysOf kvs2))), some (.d (.int ((a : Nat) + 1))), some (.d (.int (y.1 : Nat))), o8, o9, o10] ∧ Came (netOf L bl) (flo fs) b kvs2 ∧ (∃ r, kvs2 = kvs ++ r) ∧
        ∀ i s, i < j → ss[i]? = some s → s.2.2 ∈ keysOf kvs2, ⟨kvs, _, _, _, rfl, hc, ⟨[], by simp⟩, fun i s hi => absurd hi (by omega)⟩, ?_, ?_⟩
      · rintro j x e hx ⟨kvs2, o8, o9, o10, rfl, hc2, ⟨r, hr⟩, hj⟩
        obtain ⟨⟨k, d, o⟩, hsj, rfl⟩ := get_map hx
        have res := (hs k d o).mp (List.mem_of_getElem? hsj)
        have hy2 : kvs2[a]? = some y := by rw [hr, List.getElem?_append_left hlt]; exact hy
        have l2 := few hc2
        walk_at "go"
        · refine decI (fun h => ?_) (fun h => ?_)
          · have h : (!(findD (kvs2.map entD) (.inl (o : Nat))).isSome) = true := h
            rw [find_some] at h
            have hn : o ∉ keysOf kvs2 := by simpa using h
            walk_at "go"
            · rw [show PyData.tuple [.int (k : Nat), .int d, .int (y.1 : Nat)] = valD (some (k, d, y.1)) from rfl, put_ent hn]
              have ek : natD (keysOf kvs2) ++ [PyData.int (o : Nat)] = natD (keysOf (kvs2 ++ [(o, some (k, d, y.1))])) := by
                unfold keysOf natD
                rw [List.map_append, List.map_append]
                rfl
              refine ⟨kvs2 ++ [(o, some (k, d, y.1))], some (.d (.int (k : Nat))), some (.d (.int d)), some (.d (.int (o : Nat))), ?_, .snoc hc2 (List.mem_map.mpr ⟨y, List.mem_of_getElem? hy2, rfl⟩) res hn, ⟨r ++ [(o, some (k, d, y.1))], by rw [hr, List.append_assoc]⟩, fun i s hi hs => ?_⟩
              · rw [← ek]; rfl
              · unfold keysOf
                rw [List.map_append, List.mem_append]
                by_cases q : i = j
                · subst q
                  rw [hsj] at hs
                  cases hs
                  exact .inr (by simp)
                · exact .inl (hj i s (by omega) hs)
            · rw [show (natD (keysOf kvs2)).length = (keysOf kvs2).length from List.length_map _]
              unfold keysOf
              rw [List.length_map, sizeLine_eq]
              omega
            · rw [List.length_map, sizeLine_eq]; omega
            · exact (by decide : 3 ≤ sizeLine)
          · have h : ¬ (!(findD (kvs2.map entD) (.inl (o : Nat))).isSome) = true := h
            rw [find_some] at h
            have hn : o ∈ keysOf kvs2 := by simpa using h
            walk_at "wh"
            refine ⟨kvs2, _, _, _, rfl, hc2, ⟨r, hr⟩, fun i s hi hs => ?_⟩
            by_cases q : i = j
            · subst q
              rw [hsj] at hs
              cases hs
              exact hn
            · exact hj i s (by omega) hs
        · rfl
      · rintro e ⟨kvs2, o8, o9, o10, rfl, hc2, ⟨r, hr⟩, hj⟩
        walk_at "wh"
        rw [List.length_map] at hj
        have sub : ∀ x, x ∈ keysOf kvs → x ∈ keysOf kvs2 := fun x hx => by
          rw [hr]
          unfold keysOf
          rw [List.map_append, List.mem_append]
          exact .inl hx
        refine ⟨m - 1, by omega, kvs2, a + 1, _, _, _, _, rfl, hc2, by rw [hr, List.length_append]; omega, fun i z hi hz s q hr2 => ?_, by omega⟩
        by_cases q2 : i = a
        · subst q2
          rw [hr, List.getElem?_append_left hlt, hy] at hz
          cases hz
          obtain ⟨sk, sd⟩ := s
          obtain ⟨i, hi⟩ := List.mem_iff_getElem?.mp ((hs sk sd q).mpr hr2)
          exact hj i _ (List.getElem?_eq_some_iff.mp hi).1 hi
        · rw [hr, List.getElem?_append_left (by omega)] at hz
          exact sub _ (hcl i z (by omega) hz s q hr2)
    · have h : ¬ decide (((a : Nat) : Int) < ((natD (keysOf kvs)).length : Nat)) = true := h
      rw [kl] at h
      have ea : a = kvs.length := by simp at h; omega
      walk_at "wh"
      refine q kvs hc (few hc) fun s p q hr hp => ?_
      obtain ⟨y, hy, rfl⟩ := List.mem_map.mp hp
      obtain ⟨i, hi⟩ := List.mem_iff_getElem?.mp hy
      exact hcl i y (by have := (List.getElem?_eq_some_iff.mp hi).1; omega) hi s q hr
  · exact (by decide : 1 ≤ sizeLine)
theorem f_search {P : Program} {w : World} {K : Fg} {mg : Str → Option Value} {base : Heap} {f : Addr} {fd : FuncData} (g : Gs K mg) (h_go_on : Has P w K mg base "go_on" ["lines", "blanks", "flow", "place"] 1 sp_go_on) (F : Fun K "search" "search" s_search f fd) : FnOk P w K mg base CX0 2 f fd ["lines", "blanks", "flow", "begin"] (SpOf K sp_search) :=
  fn_ok F sc_search [2] (fun cdv A outer s H E hr => q_search g h_go_on cdv A outer s H E hr) (by walk_at "len") (by walk_at "keep") m_search
theorem mono_search : sp_search.Mono := by walk_at "mono"

end K76
set_option Elab.async false
set_option linter.all false
set_option maxRecDepth 100000
set_option maxHeartbeats 1000000
set_option exponentiation.threshold 20000
set_option pp.deepTerms false
set_option pp.maxSteps 500
namespace K76
open PySem PySem.Spec PyProof.Rows L2 Pf
local macro_rules | `(tactic| walk_at "go") => `(tactic| (conv => whnf) <;> repeat ((first | refine atE rfl ?_ | refine andR ?_ ?_); (conv => whnf)))
local macro_rules | `(tactic| walk_at "wh") => `(tactic| conv => whnf)
local macro_rules | `(tactic| walk_at "len") => `(tactic| (intro os Q h; (repeat (obtain ⟨_, h⟩ := h)); subst_vars; rfl))
local macro_rules | `(tactic| walk_at "keep") => `(tactic| (intro os Q h; (repeat (obtain ⟨_, h⟩ := h)); subst_vars; simp [keepOk]))
local macro_rules | `(tactic| walk_at "mono") => `(tactic| (intro os k k' f; repeat (first | exact f _ _ | refine Exists.imp fun _ => ?_ | refine And.imp_right ?_ | refine forall_imp fun _ => ?_)))
/-! the flow -/
open Fl (Came Ent)
def natI (ns : List Nat) : List Int := ns.map fun n => ((n : Nat) : Int)
def inS (ns : List Nat) : Nat → Bool := fun v => ns.contains v
def sp_flow_between : FSp := fun os Q => ∃ (L : List Ln) (bl : List Nat) (b e many : Nat), os = [.d (linesD L), .d (natsD bl), .d (.int (b : Nat)), .d (.int (e : Nat)), .d (.int (many : Nat))] ∧ L.length ≤ 60 ∧ (∀ l ∈ L, l.2.1 < 12 ∧ l.2.2 < 12) ∧ b < 12 ∧ b ≠ e ∧
  ∀ (fs : List Int) (m : Nat) (ns : List Nat), fs.length = L.length → (netOf L bl).Flow (flo fs) b e m → m ≤ many → ns.Pairwise (· < ·) → (∀ n, (∀ l ∈ L, l.2.1 < n ∧ l.2.2 < n) → b < n → ∀ x ∈ ns, x < n) →
    ((Fl.Sep b e (inS ns) ∧ (netOf L bl).cut (inS ns) = m) ∨ (m = many ∧ ∀ S, Fl.Sep b e S → m + 1 ≤ (netOf L bl).cut S)) → Q (.res (triR fs (m : Nat) (natI ns))) os
/-! ### flow_between -/
abbrev s_flow_between : Stmt := topS 9
abbrev n_flow_between : List Str := ["lines", "blanks", "begin", "end", "many", "flow", "much", "came", "place", "number", "step"]
theorem sc_flow_between : FnScope n_flow_between ["lines", "blanks", "begin", "end", "many"] (defScope s_flow_between) := ⟨rfl, rfl, rfl, by decide +kernel, rfl, by decide +kernel, by decide +kernel⟩
def r_flow_between : RS := (rSeq (rSet 5 (rCall sp_first_flow (rACons (rN 0) rANil)))
  (rSeq (rSet 6 (rO (rC (.int 0))))
  (rWhile (rTb (rC (.bool true))) (rSeq (rSet 7 (rCall sp_search (rACons (rN 0) (rACons (rN 1) (rACons (rN 5) (rACons (rN 2) rANil))))))
  (rSeq (rIfS (rOr (rDIn true 7 (rVar 3)) (rCmp (dEq false) (rN 6) (rN 4))) (rRet (rTri 5 (rVar 6) (rSortD 7))) rNext)
  (rSeq (rSet 8 (rO (rVar 3)))
  (rSeq (rWhile (rCmp (dIsN true) (rP (rDGet 7 (rVar 8))) (rP (rC .none))) (rSeq (rAsgT (rDGet 7 (rVar 8)) (rGt 3 (rGcons (rGn 9) (rGcons (rGn 10) (rGcons (rGn 8) rGnil)))))
  (rAugIx 5 (fun i j => i + j) (rVar 9) (rVar 10))))
  (rAug 6 (fun i j => i + j) (rC (.int 1))))))))))
theorem q_flow_between {P : Program} {w : World} {K : Fg} {mg : Str → Option Value} {base : Heap} {f : Addr} (g : Gs K mg) (h_first_flow : Has P w K mg base "first_flow" ["lines"] 1 sp_first_flow) (h_search : Has P w K mg base "search" ["lines", "blanks", "flow", "begin"] 2 sp_search) (cdv : Value) (A : Around) (outer : List PySem.Env) (s : Shared) (H : Hp) (E : XK) (hr : Room 2 (A.deeper (envOfC "flow_between" (defScope s_flow_between) s.heap.objs.size f cdv))) :
    QSs (cxOf CX0 P w K mg base n_flow_between "flow_between" (defScope s_flow_between) f cdv A outer s H E).nox [] (defBody s_flow_between) r_flow_between :=
  (qss_cons (qs_set 5 sc_flow_between.nd (qe_call h_first_flow (hr.mono (by decide)) (qa_cons (qp_var 0) qa_nil)))
  (qss_cons (qs_set 6 sc_flow_between.nd (QV.o qv_int))
  (qss_one (qs_while PassesOwn.never (qt_val qv_bl) (qss_cons (qs_set 7 sc_flow_between.nd (qe_call h_search (hr.mono (by decide)) (qa_cons (qp_var 0) (qa_cons (qp_var 1) (qa_cons (qp_var 5) (qa_cons (qp_var 2) qa_nil))))))
  (qss_cons (qs_if (QW.t (qw_or (qt_dnotin hr.units 7 (qv_var 3)) (qw_or1 (qt_eq hr.units (qp_var 6) (qp_var 4))))) (qss_one (qs_ret (qe_tri 5 (qv_var 6) (qe_sortD 7 rfl g.sorted)))) qss_nil)
  (qss_cons (qs_set 8 sc_flow_between.nd (QV.o (qv_var 3)))
  (qss_cons (qs_while PassesOwn.never (qt_notN ((qv_dget hr.units 7 (qv_var 8))).p (qv_non).p) (qss_cons (qs_asgT (qv_dget hr.units 7 (qv_var 8)) (qg_tup 3 rfl (qgs_cons (qg_name 9 sc_flow_between.nd) (qgs_cons (qg_name 10 sc_flow_between.nd) (qgs_cons (qg_name 8 sc_flow_between.nd) qgs_nil)))))
  (qss_one (qs_augIx ip_add 5 (qv_var 9) (qv_var 10)))))
  (qss_one (qs_aug ip_add 6 sc_flow_between.nd qv_int))))))))))

theorem flo_set {gs : List Int} {k : Nat} {x : Int} (h : k < gs.length) : flo (gs.set k x) = Fl.upd (flo gs) k x := funext fun j => by
  show (gs.set k x).getD j 0 = if j = k then x else gs.getD j 0
  rw [List.getD_eq_getElem?_getD, List.getD_eq_getElem?_getD]
  by_cases q : j = k
  · subst q
    rw [if_pos rfl, List.getElem?_set_self h]; rfl
  · rw [if_neg q, List.getElem?_set_ne (Ne.symm q)]
theorem flo_rep (n : Nat) : flo (List.replicate n 0) = fun _ => 0 := funext fun j => by
  unfold flo
  rw [List.getD_eq_getElem?_getD, List.getElem?_replicate]
  split <;> rfl
theorem cut_le (N : Fl.Net) (S : Nat → Bool) : N.cut S ≤ N.n := by
  unfold Fl.Net.cut
  exact Nat.le_trans (List.length_filter_le _ _) (by rw [List.length_range]; exact Nat.le_refl _)
theorem sep_one {b e : Nat} (h : b ≠ e) : Fl.Sep b e fun v => v == b := ⟨beq_self_eq_true b, beq_eq_false_iff_ne.mpr h.symm⟩
/-- the keys put in sequence -/
theorem sorted_keys {ks : List Nat} {ms : List Int} (nd : ks.Nodup) (p : ms.Perm (natI ks)) (s : ms.Pairwise (· ≤ ·)) : ∃ ns : List Nat, ms = natI ns ∧ ns.Perm ks ∧ ns.Pairwise (· < ·) := by
  have e : ms = natI (ms.map Int.toNat) := by
    unfold natI
    rw [List.map_map]
    refine (List.map_id ms).symm.trans (List.map_congr_left fun x hx => ?_)
    obtain ⟨n, _, rfl⟩ := List.mem_map.mp (p.mem_iff.mp hx)
    rfl
  have p2 : (ms.map Int.toNat).Perm ks := by
    have := p.map Int.toNat
    rw [show (natI ks).map Int.toNat = ks from by
      unfold natI
      rw [List.map_map]
      exact (List.map_congr_left fun x _ => rfl).trans (List.map_id ks)] at this
    exact this
  refine ⟨ms.map Int.toNat, e, p2, ?_⟩
  have nd2 := p2.nodup_iff.mpr nd
  rw [e] at s
  unfold natI at s
  have s2 := List.pairwise_map.mp s
  refine (List.Pairwise.and s2 nd2).imp fun {a b} h => ?_
  omega
theorem keysI_ent (kvs : List Ent) : keysI (kvs.map entD) = some (natI (keysOf kvs)) := by
  induction kvs with
  | nil => rfl
  | cons y kvs ih =>
    rw [List.map_cons]
    show keysI ((.inl ((y.1 : Nat) : Int), valD y.2) :: kvs.map entD) = _
    unfold keysI
    rw [ih]
    rfl
theorem m_flow_between (os : List O) (Q : O → List O → Prop) (h : sp_flow_between os Q) : Ends r_flow_between n_flow_between os Q := by
  obtain ⟨L, bl, b, e, many, rfl, hl, hL, hb, hbe, q⟩ := h
  have mx : ∀ {f : Nat → Int} {m : Nat}, (netOf L bl).Flow f b e m → m ≤ L.length := fun F => Nat.le_trans (F.le (sep_one hbe)) (cut_le _ _)
  walk_at "go"
  refine ⟨L, rfl, hl, ?_⟩
  walk_at "go"
  refine ⟨fun k env => ∃ fs mu o7 o8 o9 o10, env = [some (.d (linesD L)), some (.d (natsD bl)), some (.d (.int (b : Nat))), some (.d (.int (e : Nat))), some (.d (.int (many : Nat))), some (.own (zD fs)), some (.d (.int (mu : Nat))), o7, o8, o9, o10] ∧ fs.length = L.length ∧ (netOf L bl).Flow (flo fs) b e mu ∧ mu ≤ many ∧ k + mu = L.length, ⟨L.length, List.replicate L.length 0, 0, none, none, none, none, rfl, by rw [List.length_replicate], by rw [flo_rep]; exact .zero b e, Nat.zero_le _, rfl⟩, ?_⟩
  rintro k env ⟨fs, mu, o7, o8, o9, o10, rfl, hf, F, hm, hk⟩
  walk_at "go"
  refine ⟨L, bl, fs, b, rfl, hl, hf, hL, hb, fun kvs hc hl2 hcl => ?_⟩
  have nd := hc.nodup
  have fin : ∀ ns' : List Int, ns'.Perm (natI (keysOf kvs)) → ns'.Pairwise (· ≤ ·) → (e ∉ keysOf kvs ∨ mu = many) → Q (.res (triR fs (mu : Nat) ns')) [.d (linesD L), .d (natsD bl), .d (.int (b : Nat)), .d (.int (e : Nat)), .d (.int (many : Nat))] := fun ns' p s hor => by
    obtain ⟨ns, rfl, p2, s2⟩ := sorted_keys (show (keysOf kvs).Nodup from nd) p s
    refine q fs mu ns hf F hm s2 (fun n hL hb x hx => came_lt hc hL hb x (p2.mem_iff.mp hx)) ?_
    have iff : ∀ v, inS ns v = true ↔ v ∈ keysOf kvs := fun v => by
      unfold inS
      rw [List.contains_iff_mem]
      exact p2.mem_iff
    by_cases he : e ∈ keysOf kvs
    · refine .inr ⟨hor.resolve_left fun z => z he, fun S hS => ?_⟩
      obtain ⟨s, p, q', r, h1, h2⟩ := hc.leave hS.1 he hS.2
      exact F.lt hS r h1 h2
    · have hS : Fl.Sep b e (inS ns) := ⟨(iff b).mpr hc.mem, by rw [Bool.eq_false_iff]; exact fun z => he ((iff e).mp z)⟩
      refine .inl ⟨hS, (F.eq hS fun s p q' r h1 => (iff q').mpr (hcl s p q' r ((iff p).mp h1))).symm⟩
  have few : (natI (keysOf kvs)).length < 64 := by
    unfold natI keysOf
    rw [List.length_map, List.length_map]
    omega
  walk_at "go"
  refine decI (fun h => ?_) (fun h => ?_)
  · have h : (!(findD (kvs.map entD) (.inl (e : Nat))).isSome) = true := h
    rw [find_some] at h
    have hn : e ∉ keysOf kvs := by simpa using h
    walk_at "wh"
    refine ⟨zD fs, rfl, ?_⟩
    walk_at "wh"
    refine ⟨natI (keysOf kvs), keysI_ent kvs, few, fun ns' p s => ?_⟩
    walk_at "wh"
    refine ⟨fs, ns', rfl, rfl, ?_⟩
    walk_at "wh"
    exact fin ns' p s (.inl hn)
  · have h : ¬ (!(findD (kvs.map entD) (.inl (e : Nat))).isSome) = true := h
    rw [find_some] at h
    have hy : e ∈ keysOf kvs := by simpa using h
    walk_at "wh"
    refine decI (fun h2 => ?_) (fun h2 => ?_)
    · have h2 : decide (((mu : Nat) : Int) = ((many : Nat) : Int)) = true := h2
      rw [i2n] at h2
      have h2 := of_decide_eq_true h2
      walk_at "wh"
      refine ⟨zD fs, rfl, ?_⟩
      walk_at "wh"
      refine ⟨natI (keysOf kvs), keysI_ent kvs, few, fun ns' p s => ?_⟩
      walk_at "wh"
      refine ⟨fs, ns', rfl, rfl, ?_⟩
      walk_at "wh"
      exact fin ns' p s (.inr h2)
    · have h2 : ¬ decide (((mu : Nat) : Int) = ((many : Nat) : Int)) = true := h2
      rw [i2n] at h2
      have h2 : mu ≠ many := fun z => h2 (decide_eq_true z)
      obtain ⟨i0, hi0, A0⟩ := Fl.Aug.start F hy
      walk_at "go"
      refine ⟨fun j env => ∃ gs p o9 o10, env = [some (.d (linesD L)), some (.d (natsD bl)), some (.d (.int (b : Nat))), some (.d (.int (e : Nat))), some (.d (.int (many : Nat))), some (.own (zD gs)), some (.d (.int (mu : Nat))), some (.dct (kvs.map entD)), some (.d (.int (p : Nat))), o9, o10] ∧ gs.length = L.length ∧ Fl.Aug (netOf L bl) (flo fs) b e kvs (flo gs) j p, ⟨i0, fs, e, o9, o10, rfl, hf, A0⟩, ?_⟩
      rintro j env ⟨gs, p, o9, o10, rfl, hg, A⟩
      obtain ⟨y, hy1, ep⟩ := A.here
      have hfd : findD (kvs.map entD) (.inl (p : Nat)) = some (valD y.2) := by
        rw [findD_ent, ← ep, hc.find hy1]
        rfl
      walk_at "wh"
      refine ⟨_, hfd, ?_⟩
      cases ey : y.2 with
      | none =>
        walk_at "go"
        have F2 := A.done F hc hy1 ey
        have := mx F2
        · exact ⟨k - 1, by omega, gs, mu + 1, _, _, _, _, rfl, hg, F2, by omega, by omega⟩
        · first
          | rfl
          | trivial
      | some s =>
        obtain ⟨n, d, o⟩ := s
        obtain ⟨h1, hd, j', hj, A2⟩ := A.next hc hy1 ey
        have h1 : n < L.length := h1
        obtain ⟨x, hx, _⟩ := getAt (show n < gs.length by omega)
        rw [ey] at hfd
        walk_at "go"
        refine ⟨_, hfd, ?_⟩
        walk_at "wh"
        refine ⟨rfl, ?_⟩
        walk_at "wh"
        refine ⟨x, ?_, ?_, ?_⟩
        · show (0 : Int) ≤ (n : Nat); omega
        · show (zD gs)[((n : Nat) : Int).toNat]? = _
          rw [Int.toNat_natCast]
          unfold zD
          rw [List.getElem?_map, hx]; rfl
        walk_at "wh"
        refine ⟨n, ixN_nat (by rw [zD_len]; omega), ?_⟩
        walk_at "wh"
        refine ⟨j', hj, gs.set n (x + d), o, some (.d (.int (n : Nat))), some (.d (.int d)), ?_, by rw [List.length_set]; exact hg, ?_⟩
        · rw [show zD (gs.set n (x + d)) = (zD gs).set n (.int (x + d)) from List.map_set]
          rfl
        · rw [flo_set (by omega)]
          have := flo_at hx
          rw [← this]
          exact A2
theorem f_flow_between {P : Program} {w : World} {K : Fg} {mg : Str → Option Value} {base : Heap} {f : Addr} {fd : FuncData} (g : Gs K mg) (h_first_flow : Has P w K mg base "first_flow" ["lines"] 1 sp_first_flow) (h_search : Has P w K mg base "search" ["lines", "blanks", "flow", "begin"] 2 sp_search) (F : Fun K "flow_between" "flow_between" s_flow_between f fd) : FnOk P w K mg base CX0 3 f fd ["lines", "blanks", "begin", "end", "many"] (SpOf K sp_flow_between) :=
  fn_ok F sc_flow_between [] (fun cdv A outer s H E hr => q_flow_between g h_first_flow h_search cdv A outer s H E hr) (by walk_at "len") (by walk_at "keep") m_flow_between
theorem mono_flow_between : sp_flow_between.Mono := by walk_at "mono"

end K76
set_option Elab.async false
set_option linter.all false
set_option maxRecDepth 100000
set_option maxHeartbeats 1000000
set_option exponentiation.threshold 20000
set_option pp.deepTerms false
set_option pp.maxSteps 500
namespace K76
open PySem PySem.Spec PyProof.Rows L2 Pf
local macro_rules | `(tactic| walk_at "go") => `(tactic| (conv => whnf) <;> repeat ((first | refine atE rfl ?_ | refine andR ?_ ?_); (conv => whnf)))
local macro_rules | `(tactic| walk_at "wh") => `(tactic| conv => whnf)
local macro_rules | `(tactic| walk_at "len") => `(tactic| (intro os Q h; (repeat (obtain ⟨_, h⟩ := h)); subst_vars; rfl))
local macro_rules | `(tactic| walk_at "keep") => `(tactic| (intro os Q h; (repeat (obtain ⟨_, h⟩ := h)); subst_vars; simp [keepOk]))
local macro_rules | `(tactic| walk_at "mono") => `(tactic| (intro os k k' f; repeat (first | exact f _ _ | refine Exists.imp fun _ => ?_ | refine And.imp_right ?_ | refine forall_imp fun _ => ?_)))
/-! a way taken out of the flow -/
open Fl (Net)
def stD (s : Nat × Int) : D := .tuple [.int (s.1 : Nat), .int s.2]
def sp_one_way : FSp := fun os Q => ∃ (L : List Ln) (bl : List Nat) (fs : List Int) (b e r : Nat), os = [.d (linesD L), .own (zD fs), .d (.int (b : Nat)), .d (.int (e : Nat))] ∧ L.length ≤ 60 ∧ fs.length = L.length ∧ (∀ l ∈ L, l.2.1 < 12 ∧ l.2.2 < 12) ∧ b < 12 ∧ (netOf L bl).Sub (flo fs) b e (r + 1) ∧
  ∀ (fs' : List Int) (W : List (Nat × Int)), fs'.length = L.length → (netOf L bl).Sub (flo fs') b e r → (netOf L bl).Way b e W → (∀ s ∈ W, flo fs s.1 = s.2 ∧ flo fs' s.1 = 0) → (∀ k, flo fs' k = flo fs k ∨ flo fs' k = 0) → Q (.d (.list (W.map stD))) [.d (linesD L), .own (zD fs'), .d (.int (b : Nat)), .d (.int (e : Nat))]
/-! ### one_way -/
abbrev s_one_way : Stmt := topS 10
abbrev n_one_way : List Str := ["lines", "flow", "begin", "end", "way", "marks", "number", "_", "tail", "head", "at"]
theorem sc_one_way : FnScope n_one_way ["lines", "flow", "begin", "end"] (defScope s_one_way) := ⟨rfl, rfl, rfl, by decide +kernel, rfl, by decide +kernel, by decide +kernel⟩
def r_one_way : RS := (rSeq (rSet 4 (rLst rNil))
  (rSeq (rSet 5 (rLst (rCons (rVar 2) rNil)))
  (rSeq (rWhile (rCmp (dEq true) (rP (rD (rOp dIx (rN 5) (rP (rNeg (rC (.int 1))))))) (rN 3)) (rSeq (rForT (rEnum (rVar 0)) 2 (rGcons (rGn 6) (rGcons (rGt 3 (rGcons (rGn 7) (rGcons (rGn 8) (rGcons (rGn 9) rGnil)))) rGnil)) (rIfS (rOr (rAnd (rCmp (dEq false) (rP (rD (rOp dIx (rN 1) (rN 6)))) (rP (rC (.int 1)))) (rCmp (dEq false) (rN 8) (rP (rD (rOp dIx (rN 5) (rP (rNeg (rC (.int 1))))))))) (rAnd (rCmp (dEq false) (rP (rD (rOp dIx (rN 1) (rN 6)))) (rP (rNeg (rC (.int 1))))) (rCmp (dEq false) (rN 9) (rP (rD (rOp dIx (rN 5) (rP (rNeg (rC (.int 1)))))))))) (rSeq (rDrop (rApp 4 (rTup (rCons (rVar 6) (rCons (rD (rOp dIx (rN 1) (rN 6))) rNil)))))
  (rSeq (rDrop (rApp 5 (rD (rIf (rCmp (dEq false) (rP (rD (rOp dIx (rN 1) (rN 6)))) (rP (rC (.int 1)))) (rO (rVar 9)) (rO (rVar 8))))))
  (rSeq (rSetIx 1 (rC (.int 0)) (rVar 6))
  rBreak))) rNext))
  (rSeq (rSet 10 (rO (rIndexO 5 (rD (rOp dIx (rN 5) (rP (rNeg (rC (.int 1)))))))))
  (rSeq (rSet 4 (rSl (rN 4) rNoI (rSoI (rVar 10))))
  (rSet 5 (rSl (rN 5) rNoI (rSoI (rD (rOp dAdd (rN 10) (rP (rC (.int 1))))))))))))
  (rRet (rO (rVar 4))))))
theorem q_one_way {P : Program} {w : World} {K : Fg} {mg : Str → Option Value} {base : Heap} {f : Addr} (g : Gs K mg) (cdv : Value) (A : Around) (outer : List PySem.Env) (s : Shared) (H : Hp) (E : XK) (hr : Room 0 (A.deeper (envOfC "one_way" (defScope s_one_way) s.heap.objs.size f cdv))) :
    QSs (cxOf CX0 P w K mg base n_one_way "one_way" (defScope s_one_way) f cdv A outer s H E).nox [1] (defBody s_one_way) r_one_way :=
  (qss_cons (qs_set 4 sc_one_way.nd (qe_lst ql_nil))
  (qss_cons (qs_set 5 sc_one_way.nd (qe_lst (ql_cons (qv_var 2) ql_nil)))
  (qss_cons (qs_while PassesOwn.never (qt_ne hr.units ((qv_ix (qp_var 5) ((qv_neg qv_int)).p)).p (qp_var 3)) (qss_cons (qs_forT 2 PassesOwn.never rfl (qf_enum g.enumerate (qv_var 0)) (qgs_cons (qg_name 6 sc_one_way.nd) (qgs_cons (qg_tup 3 rfl (qgs_cons (qg_name 7 sc_one_way.nd) (qgs_cons (qg_name 8 sc_one_way.nd) (qgs_cons (qg_name 9 sc_one_way.nd) qgs_nil)))) qgs_nil)) (qss_one (qs_if (QW.t (qw_or (QW.t (qw_and (qt_eq hr.units ((qv_ix (qp_var 1) (qp_var 6))).p (qv_int).p) (qw_and1 (qt_eq hr.units (qp_var 8) ((qv_ix (qp_var 5) ((qv_neg qv_int)).p)).p)))) (qw_or1 (QW.t (qw_and (qt_eq hr.units ((qv_ix (qp_var 1) (qp_var 6))).p ((qv_neg qv_int)).p) (qw_and1 (qt_eq hr.units (qp_var 9) ((qv_ix (qp_var 5) ((qv_neg qv_int)).p)).p))))))) (qss_cons (qs_expr (qe_append 4 (qv_tup (ql_cons (qv_var 6) (ql_cons (qv_ix (qp_var 1) (qp_var 6)) ql_nil)))))
  (qss_cons (qs_expr (qe_append 5 (QE.v (qe_if (qt_eq hr.units ((qv_ix (qp_var 1) (qp_var 6))).p (qv_int).p) (QV.o (qv_var 9)) (QV.o (qv_var 8))))))
  (qss_cons (qs_setIx 1 qv_int (qv_var 6))
  (qss_one qs_break)))) qss_nil)))
  (qss_cons (qs_set 10 sc_one_way.nd (QV.o (qv_indexO 5 (qv_ix (qp_var 5) ((qv_neg qv_int)).p))))
  (qss_cons (qs_set 4 sc_one_way.nd (qe_slice (qp_var 4) qi_none (qi_some (qv_var 10))))
  (qss_one (qs_set 5 sc_one_way.nd (qe_slice (qp_var 5) qi_none (qi_some (QE.v (qe_add (qp_var 10) (qv_int).p))))))))))
  (qss_one (qs_ret (QV.o (qv_var 4)))))))

theorem cut_to {α : Type} {xs : List α} {j : Nat} (h : j ≤ xs.length) : cut xs none (some (j : Int)) = xs.take j := by
  unfold cut
  have e1 : HT.sIx xs.length 0 none = 0 := rfl
  have e2 : HT.sIx xs.length xs.length (some ((j : Nat) : Int)) = j := by
    rw [HT.sIx_nat]
    omega
  rw [e1, e2, List.drop_zero, Nat.sub_zero]
theorem first_at {α : Type} [DecidableEq α] {q : α} : ∀ {l : List α}, q ∈ l → ∃ j : Nat, l[j]? = some q ∧ ∀ m : Nat, m < j → l[m]? ≠ some q
  | [], h => nomatch h
  | x :: l, h => by
    by_cases e : x = q
    · exact ⟨0, by rw [e]; rfl, fun m hm => absurd hm (by omega)⟩
    · obtain ⟨j, h1, h2⟩ := first_at (l := l) ((List.mem_cons.mp h).resolve_left (Ne.symm e))
      refine ⟨j + 1, h1, fun m hm => ?_⟩
      cases m with
      | zero => exact fun z => e (Option.some.inj z)
      | succ m => exact h2 m (by omega)
theorem atI_last {α : Type} {xs : List α} {y : α} (h : xs[xs.length - 1]? = some y) : atI xs (-1) = some y := by
  have hl := (List.getElem?_eq_some_iff.mp h).1
  have e : xs = xs.dropLast ++ [y] := by
    have hne : xs ≠ [] := fun z => by rw [z] at hl; simp at hl
    have := List.dropLast_concat_getLast hne
    rw [List.getLast_eq_getElem] at this
    rw [List.getElem?_eq_getElem hl] at h
    rw [Option.some.inj h] at this
    exact this.symm
  rw [e]
  exact atI_neg1 _ _
theorem stD_snoc (W : List (Nat × Int)) (s : Nat × Int) : W.map stD ++ [stD s] = (W ++ [s]).map stD := by rw [List.map_append]; rfl
theorem natD_snoc (W : List Nat) (s : Nat) : natD W ++ [.int (s : Nat)] = natD (W ++ [s]) := by unfold natD; rw [List.map_append]; rfl
theorem natD_len (l : List Nat) : (natD l).length = l.length := List.length_map _
def owT : RT := (rOr
                      (rAnd (rCmp (dEq false) (rP (rD (rOp dIx (rN 1) (rN 6)))) (rP (rC (PyData.int 1))))
                        (rCmp (dEq false) (rN 8) (rP (rD (rOp dIx (rN 5) (rP (rNeg (rC (PyData.int 1)))))))))
                      (rAnd (rCmp (dEq false) (rP (rD (rOp dIx (rN 1) (rN 6)))) (rP (rNeg (rC (PyData.int 1)))))
                        (rCmp (dEq false) (rN 9) (rP (rD (rOp dIx (rN 5) (rP (rNeg (rC (PyData.int 1))))))))))
theorem owT_ok {o0 o2 o3 o4 o7 o10 : Option O} {gs : List Int} {ms : List Nat} {i t h p : Nat} {x : Int} (hx : gs[i]? = some x) (hp : atI (natD ms) (-1) = some (.int (p : Nat))) {c : Bool → Pf.Env → Prop}
    (q : c (decide ((x = 1 ∧ t = p) ∨ (x = -1 ∧ h = p))) [o0, some (.own (zD gs)), o2, o3, o4, some (.own (natD ms)), some (.d (.int (i : Nat))), o7, some (.d (.int (t : Nat))), some (.d (.int (h : Nat))), o10]) :
    owT [o0, some (.own (zD gs)), o2, o3, o4, some (.own (natD ms)), some (.d (.int (i : Nat))), o7, some (.d (.int (t : Nat))), some (.d (.int (h : Nat))), o10] c := by
  walk_at "go"
  refine ⟨_, zD_at hx, ?_⟩
  walk_at "go"
  refine decI (fun h1 => ?_) (fun h1 => ?_)
  · have h1 : decide (x = 1) = true := h1
    have h1 := of_decide_eq_true h1
    walk_at "go"
    refine ⟨_, hp, ?_⟩
    walk_at "go"
    refine decI (fun h2 => ?_) (fun h2 => ?_)
    · have h2 : decide (((t : Nat) : Int) = ((p : Nat) : Int)) = true := h2
      rw [i2n] at h2
      have h2 := of_decide_eq_true h2
      walk_at "wh"
      rw [decide_eq_true (show (x = 1 ∧ t = p) ∨ (x = -1 ∧ h = p) from .inl ⟨h1, h2⟩)] at q
      exact q
    · have h2 : ¬ decide (((t : Nat) : Int) = ((p : Nat) : Int)) = true := h2
      rw [i2n] at h2
      have h2 : ¬ t = p := fun z => h2 (decide_eq_true z)
      walk_at "go"
      refine ⟨_, zD_at hx, ?_⟩
      walk_at "go"
      refine decI (fun h3 => ?_) (fun h3 => ?_)
      · have h3 : decide (x = -1) = true := h3
        have h3 := of_decide_eq_true h3
        omega
      · have h3 : ¬ decide (x = -1) = true := h3
        walk_at "wh"
        have h4 : ¬ x = -1 := fun z => h3 (decide_eq_true z)
        rw [decide_eq_false (show ¬ ((x = 1 ∧ t = p) ∨ (x = -1 ∧ h = p)) from fun z => z.elim (fun z => h2 z.2) fun z => h4 z.1)] at q
        exact q
  · have h1 : ¬ decide (x = 1) = true := h1
    have h1 : ¬ x = 1 := fun z => h1 (decide_eq_true z)
    walk_at "go"
    refine ⟨_, zD_at hx, ?_⟩
    walk_at "go"
    refine decI (fun h3 => ?_) (fun h3 => ?_)
    · have h3 : decide (x = -1) = true := h3
      have h3 := of_decide_eq_true h3
      walk_at "go"
      refine ⟨_, hp, ?_⟩
      walk_at "wh"
      rw [show decide ((x = 1 ∧ t = p) ∨ (x = -1 ∧ h = p)) = decide (h = p) by simp [h1, h3]] at q
      rw [i2n]
      exact q
    · have h3 : ¬ decide (x = -1) = true := h3
      walk_at "wh"
      have h4 : ¬ x = -1 := fun z => h3 (decide_eq_true z)
      rw [decide_eq_false (show ¬ ((x = 1 ∧ t = p) ∨ (x = -1 ∧ h = p)) from fun z => z.elim (fun z => h1 z.1) fun z => h4 z.1)] at q
      exact q
def owR : RS := (rSeq (rSet 10 (rO (rIndexO 5 (rD (rOp dIx (rN 5) (rP (rNeg (rC (PyData.int 1)))))))))
                  (rSeq (rSet 4 (rSl (rN 4) rNoI (rSoI (rVar 10))))
                    (rSet 5 (rSl (rN 5) rNoI (rSoI (rD (rOp dAdd (rN 10) (rP (rC (PyData.int 1))))))))))
theorem intsOf_nat (l : List Nat) : intsOf (natD l) = some (natI l) := by
  have := intsOf_map (natI l)
  unfold natI at this ⊢
  rw [List.map_map] at this
  exact this
theorem owR_ok {E : Pf.End} {env : Pf.Env} {o0 o1 o2 o3 o6 o7 o8 o9 o10 : Option O} {W : List (Nat × Int)} {ms : List Nat} {q j : Nat} (he : env = [o0, o1, o2, o3, some (.own (W.map stD)), some (.own (natD ms)), o6, o7, o8, o9, o10]) (h : ms[j]? = some q) (hf : ∀ m, m < j → ms[m]? ≠ some q) (hl : atI (natD ms) (-1) = some (.int (q : Nat))) (hj : j ≤ W.length) (hW : W.length ≤ 100)
    (k : E.nx [o0, o1, o2, o3, some (.own ((W.take j).map stD)), some (.own (natD (ms.take (j + 1)))), o6, o7, o8, o9, some (.d (.int (j : Nat)))]) :
    owR E env := by
  subst he
  have hjl := (List.getElem?_eq_some_iff.mp h).1
  walk_at "go"
  refine ⟨_, hl, ?_⟩
  walk_at "wh"
  refine ⟨natI ms, j, intsOf_nat ms, by unfold natI; rw [List.getElem?_map, h]; rfl, fun m hm z => ?_, ?_⟩
  · unfold natI at z
    rw [List.getElem?_map] at z
    obtain ⟨x, hx, e⟩ := Option.map_eq_some_iff.mp z
    exact hf m hm (by rw [hx]; congr 1; omega)
  walk_at "go"
  have e1 : cut (W.map stD) none (some ((j : Nat) : Int)) = (W.take j).map stD := by
    rw [cut_to (by rw [List.length_map]; exact hj), List.map_take]
  have e2 : cut (natD ms) none (some (((j : Nat) : Int) + 1)) = natD (ms.take (j + 1)) := by
    rw [show ((j : Nat) : Int) + 1 = ((j + 1 : Nat) : Int) by omega, cut_to (by rw [natD_len]; omega)]
    unfold natD
    rw [List.map_take]
  rw [← e1, ← e2] at k
  exact k
theorem m_one_way (os : List O) (Q : O → List O → Prop) (h : sp_one_way os Q) : Ends r_one_way n_one_way os Q := by
  obtain ⟨L, bl, fs, b, e, r, rfl, hl, hf, hL, hb, S, q⟩ := h
  have lt12 : ∀ (s : Nat × Int), s.1 < L.length → (netOf L bl).fin s < 12 := fun s hs => by
    obtain ⟨l, hl, hm⟩ := getAt hs
    have := hL l hm
    unfold Fl.Net.fin
    split
    · rw [net_h hl]; exact this.2
    · rw [net_t hl]; exact this.1
  have few : ∀ {p : Nat} {W : List (Nat × Int)}, (netOf L bl).Way b p W → W.length ≤ 12 := fun w => by
    have := nodup_lt 12 _ w.nodup fun x hx => by
      rcases List.mem_cons.mp hx with z | z
      · rw [z]; exact hb
      · obtain ⟨s, hs, rfl⟩ := List.mem_map.mp z
        exact lt12 s (w.ok s hs).1
    rw [Fl.marks_len] at this
    omega
  walk_at "go"
  · refine ⟨fun m env => ∃ gs p W o6 o7 o8 o9 o10, env = [some (.d (linesD L)), some (.own (zD gs)), some (.d (.int (b : Nat))), some (.d (.int (e : Nat))), some (.own (W.map stD)), some (.own (natD ((netOf L bl).marks b W))), o6, o7, o8, o9, o10] ∧ gs.length = L.length ∧ Fl.Tak (netOf L bl) (flo fs) b e r W (flo gs) p ∧ m = Fl.nz L.length (flo gs), ⟨_, fs, b, [], none, none, none, none, none, rfl, hf, Fl.Tak.start S, rfl⟩, ?_⟩
    rintro m env ⟨gs, p, W, o6, o7, o8, o9, o10, rfl, hg, T, rfl⟩
    have hlast : atI (natD ((netOf L bl).marks b W)) (-1) = some (.int (p : Nat)) := by
      refine atI_last ?_
      rw [natD_len, Fl.marks_len]
      unfold natD
      rw [List.getElem?_map, Nat.add_sub_cancel, T.way.chain.last]
      rfl
    have hWl := few T.way
    walk_at "go"
    refine ⟨_, hlast, ?_⟩
    walk_at "go"
    refine decI (fun h => ?_) (fun h => ?_)
    · have h : (!decide (((p : Nat) : Int) = ((e : Nat) : Int))) = true := h
      rw [i2n] at h
      have hpe : p ≠ e := by simpa using h
      walk_at "go"
      refine ⟨fun i env => (∃ o6 o7 o8 o9, env = [some (.d (linesD L)), some (.own (zD gs)), some (.d (.int (b : Nat))), some (.d (.int (e : Nat))), some (.own (W.map stD)), some (.own (natD ((netOf L bl).marks b W))), o6, o7, o8, o9, o10]) ∧ ∀ j l x, j < i → L[j]? = some l → gs[j]? = some x → ¬ ((x = 1 ∧ l.2.1 = p) ∨ (x = -1 ∧ l.2.2 = p)), ⟨⟨_, _, _, _, rfl⟩, fun j l x hj => absurd hj (by omega)⟩, ?_, ?_⟩
      · rintro i xs env hx ⟨⟨o6, o7, o8, o9, rfl⟩, hno⟩
        obtain ⟨l, hli, rfl⟩ := enumD_at hx
        have hi : i < L.length := (List.getElem?_eq_some_iff.mp hli).1
        obtain ⟨x, hxi, _⟩ := getAt (show i < gs.length by omega)
        refine ⟨rfl, ?_⟩
        walk_at "wh"
        refine ⟨rfl, ?_⟩
        refine owT_ok hxi hlast ?_
        generalize hd : decide ((x = 1 ∧ l.2.1 = p) ∨ (x = -1 ∧ l.2.2 = p)) = dd
        cases dd with
        | false =>
          have hd := of_decide_eq_false hd
          walk_at "wh"
          refine ⟨⟨_, _, _, _, rfl⟩, fun j l' x' hj hl' hx' => ?_⟩
          by_cases z : j = i
          · subst z
            rw [hli] at hl'
            rw [hxi] at hx'
            cases hl'
            cases hx'
            exact hd
          · exact hno j l' x' (by omega) hl' hx'
        | true =>
          have hd := of_decide_eq_true hd
          have hfx := flo_at hxi
          have hq : (netOf L bl).fin (i, x) = if x = 1 then l.2.2 else l.2.1 := by
            unfold Fl.Net.fin
            rw [net_t hli, net_h hli]
          have hor : (x = 1 ∧ (netOf L bl).t i = p) ∨ (x = -1 ∧ (netOf L bl).h i = p) := by
            rw [net_t hli, net_h hli]
            exact hd
          have e1 : W.map stD ++ [PyData.tuple [.int (i : Nat), .int x]] = (W ++ [(i, x)]).map stD := stD_snoc W (i, x)
          have e2 : natD ((netOf L bl).marks b W) ++ [PyData.int ((netOf L bl).fin (i, x) : Nat)] = natD ((netOf L bl).marks b (W ++ [(i, x)])) := by
            rw [natD_snoc, Fl.marks_snoc]
          have hmem : (netOf L bl).fin (i, x) ∈ (netOf L bl).marks b (W ++ [(i, x)]) := by
            rw [Fl.marks_snoc]
            simp
          obtain ⟨j, hj, hjf⟩ := first_at hmem
          have hjl := (List.getElem?_eq_some_iff.mp hj).1
          rw [Fl.marks_len] at hjl
          have T2 := T.next hi hfx hor hj hjf
          have hlast2 : atI (natD ((netOf L bl).marks b (W ++ [(i, x)]))) (-1) = some (.int ((netOf L bl).fin (i, x) : Nat)) := by
            rw [← e2]
            exact atI_neg1 _ _
          have hx0 : flo gs i ≠ 0 := by
            rw [hfx]
            rcases hd with z | z <;> omega
          have fin : ∃ m', m' < Fl.nz L.length (flo gs) ∧ ∃ (gs' : List Int) (p' : Nat) (W' : List (Nat × Int)) (p6 p7 p8 p9 p10 : Option O), [some (O.d (linesD L)), some (.own ((zD gs).set i (.int 0))), some (.d (.int (b : Nat))), some (.d (.int (e : Nat))), some (.own (((W ++ [(i, x)]).take j).map stD)), some (.own (natD (((netOf L bl).marks b (W ++ [(i, x)])).take (j + 1)))), some (.d (.int (i : Nat))), some (.d (.str l.1)), some (.d (.int (l.2.1 : Nat))), some (.d (.int (l.2.2 : Nat))), some (.d (.int (j : Nat)))] = [some (.d (linesD L)), some (.own (zD gs')), some (.d (.int (b : Nat))), some (.d (.int (e : Nat))), some (.own (W'.map stD)), some (.own (natD ((netOf L bl).marks b W'))), p6, p7, p8, p9, p10] ∧ gs'.length = L.length ∧ Fl.Tak (netOf L bl) (flo fs) b e r W' (flo gs') p' ∧ m' = Fl.nz L.length (flo gs') := by
            refine ⟨_, Fl.nz_lt hi hx0, gs.set i 0, (netOf L bl).fin (i, x), (W ++ [(i, x)]).take j, some (.d (.int (i : Nat))), some (.d (.str l.1)), some (.d (.int (l.2.1 : Nat))), some (.d (.int (l.2.2 : Nat))), some (.d (.int (j : Nat))), ?_, by rw [List.length_set]; exact hg, ?_, ?_⟩
            · rw [Fl.marks_take, show zD (gs.set i 0) = (zD gs).set i (.int 0) from List.map_set]
            · rw [flo_set (by omega)]
              exact T2
            · rw [flo_set (by omega)]
          have hjW : j ≤ (W ++ [(i, x)]).length := by omega
          have hW2 : (W ++ [(i, x)]).length ≤ 100 := by rw [List.length_append, List.length_singleton]; omega
          walk_at "wh"
          refine ⟨_, zD_at hxi, ?_⟩
          walk_at "wh"
          refine ⟨(by decide : 2 ≤ sizeLine), ?_⟩
          walk_at "wh"
          refine ⟨by rw [List.length_map, sizeLine_eq]; omega, ?_⟩
          walk_at "wh"
          refine ⟨_, zD_at hxi, ?_⟩
          walk_at "wh"
          refine decI (fun h1 => ?_) (fun h1 => ?_)
          · have h1 : decide (x = 1) = true := h1
            have h1 := of_decide_eq_true h1
            rw [if_pos h1] at hq
            walk_at "wh"
            refine ⟨by rw [natD_len, Fl.marks_len, sizeLine_eq]; omega, ?_⟩
            walk_at "wh"
            refine ⟨i, ixN_nat (by rw [zD_len]; omega), ?_⟩
            dsimp only [rBreak]
            refine owR_ok (o0 := some (.d (linesD L))) (o1 := some (.own ((zD gs).set i (.int 0)))) (o2 := some (.d (.int (b : Nat)))) (o3 := some (.d (.int (e : Nat)))) (o6 := some (.d (.int (i : Nat)))) (o7 := some (.d (.str l.1))) (o8 := some (.d (.int (l.2.1 : Nat)))) (o9 := some (.d (.int (l.2.2 : Nat)))) (o10 := o10) ?_ hj hjf hlast2 hjW hW2 ?_
            · rw [← e1, ← e2, hq]
              rfl
            · exact fin
          · have h1 : ¬ decide (x = 1) = true := h1
            have h1 : ¬ x = 1 := fun z => h1 (decide_eq_true z)
            rw [if_neg h1] at hq
            walk_at "wh"
            refine ⟨by rw [natD_len, Fl.marks_len, sizeLine_eq]; omega, ?_⟩
            walk_at "wh"
            refine ⟨i, ixN_nat (by rw [zD_len]; omega), ?_⟩
            dsimp only [rBreak]
            refine owR_ok (o0 := some (.d (linesD L))) (o1 := some (.own ((zD gs).set i (.int 0)))) (o2 := some (.d (.int (b : Nat)))) (o3 := some (.d (.int (e : Nat)))) (o6 := some (.d (.int (i : Nat)))) (o7 := some (.d (.str l.1))) (o8 := some (.d (.int (l.2.1 : Nat)))) (o9 := some (.d (.int (l.2.2 : Nat)))) (o10 := o10) ?_ hj hjf hlast2 hjW hW2 ?_
            · rw [← e1, ← e2, hq]
              rfl
            · exact fin
      · rintro env ⟨⟨o6, o7, o8, o9, rfl⟩, hno⟩
        exfalso
        have el : (enumD (L.map lineD)).length = L.length := by unfold enumD; rw [List.length_mapIdx, List.length_map]
        obtain ⟨k, hk, hor⟩ := T.go hpe
        obtain ⟨l, hlk, _⟩ := getAt (show k < L.length from hk)
        obtain ⟨x, hxk, _⟩ := getAt (show k < gs.length by rw [hg]; exact hk)
        have hfx := flo_at hxk
        rw [hfx, net_t hlk, net_h hlk] at hor
        have hb1 := S.lo k hk
        have hb2 := S.hi k hk
        refine hno k l x (by rw [el]; exact hk) hlk hxk ?_
        have hsub := T.sub k
        rw [hfx] at hsub
        rcases hor with ⟨a, c⟩ | ⟨a, c⟩
        · exact .inl ⟨by omega, c⟩
        · exact .inr ⟨by omega, c⟩
    · have h : ¬ (!decide (((p : Nat) : Int) = ((e : Nat) : Int))) = true := h
      rw [i2n] at h
      have hpe : p = e := by simpa using h
      subst hpe
      walk_at "wh"
      exact q gs W hg (T.done S) T.way T.out T.sub
  · exact (by decide : 1 ≤ sizeLine)
  · exact Nat.zero_le _
theorem f_one_way {P : Program} {w : World} {K : Fg} {mg : Str → Option Value} {base : Heap} {f : Addr} {fd : FuncData} (g : Gs K mg) (F : Fun K "one_way" "one_way" s_one_way f fd) : FnOk P w K mg base CX0 1 f fd ["lines", "flow", "begin", "end"] (SpOf K sp_one_way) :=
  fn_ok F sc_one_way [1] (fun cdv A outer s H E hr => q_one_way g cdv A outer s H E hr) (by walk_at "len") (by walk_at "keep") m_one_way
theorem mono_one_way : sp_one_way.Mono := by walk_at "mono"

end K76
set_option Elab.async false
set_option linter.all false
set_option maxRecDepth 100000
set_option maxHeartbeats 1000000
set_option exponentiation.threshold 20000
set_option pp.deepTerms false
set_option pp.maxSteps 500
namespace K76
open PySem PySem.Spec PyProof.Rows L2 Pf
local macro_rules | `(tactic| walk_at "go") => `(tactic| (conv => whnf) <;> repeat ((first | refine atE rfl ?_ | refine andR ?_ ?_); (conv => whnf)))
local macro_rules | `(tactic| walk_at "wh") => `(tactic| conv => whnf)
local macro_rules | `(tactic| walk_at "len") => `(tactic| (intro os Q h; (repeat (obtain ⟨_, h⟩ := h)); subst_vars; rfl))
local macro_rules | `(tactic| walk_at "keep") => `(tactic| (intro os Q h; (repeat (obtain ⟨_, h⟩ := h)); subst_vars; simp [keepOk]))
local macro_rules | `(tactic| walk_at "mono") => `(tactic| (intro os k k' f; repeat (first | exact f _ _ | refine Exists.imp fun _ => ?_ | refine And.imp_right ?_ | refine forall_imp fun _ => ?_)))
/-! ways, the least cut -/
open Fl (Net)
def lvD (ns : List Str) (L : List Ln) : D := .tuple [.tuple (ns.map PyData.str), linesD L]
def wayD (W : List (Nat × Int)) : D := .tuple (W.map stD)
def IsMin (N : Net) (b e c : Nat) : Prop := (∃ S, Fl.Sep b e S ∧ N.cut S = c) ∧ ∀ S, Fl.Sep b e S → c ≤ N.cut S
def linesOf (Ws : List (List (Nat × Int))) : List Nat := (Ws.map fun W => W.map (·.1)).flatten
structure Good (N : Net) (b e : Nat) (Ws : List (List (Nat × Int))) : Prop where
  way : ∀ W ∈ Ws, N.Way b e W
  bl : ∀ W ∈ Ws, ∀ s ∈ W, N.bl s.1 = false
  nd : (linesOf Ws).Nodup
def sp_ways_between : FSp := fun os Q => ∃ (ns : List Str) (L : List Ln) (bl : List Nat) (b e many c : Nat), os = [.d (lvD ns L), .d (natsD bl), .d (.int (b : Nat)), .d (.int (e : Nat)), .d (.int (many : Nat))] ∧ L.length ≤ 60 ∧ (∀ l ∈ L, l.2.1 < 12 ∧ l.2.2 < 12) ∧ b < 12 ∧ b ≠ e ∧ IsMin (netOf L bl) b e c ∧
  (c < many → Q (.d .none) os) ∧ (many ≤ c → ∀ Ws, Ws.length = many → Good (netOf L bl) b e Ws → Q (.d (.tuple (Ws.map wayD))) os)
theorem mono_ways_between : sp_ways_between.Mono := fun os k k' f ⟨a1, a2, a3, a4, a5, a6, a7, h1, h2, h3, h4, h5, h6, h7, h8⟩ => ⟨a1, a2, a3, a4, a5, a6, a7, h1, h2, h3, h4, h5, h6, fun z => f _ _ (h7 z), fun z Ws y x => f _ _ (h8 z Ws y x)⟩
def sp_least_cut : FSp := fun os Q => ∃ (ns : List Str) (L : List Ln) (bl : List Nat) (b e c : Nat), os = [.d (lvD ns L), .d (natsD bl), .d (.int (b : Nat)), .d (.int (e : Nat))] ∧ L.length ≤ 60 ∧ (∀ l ∈ L, l.2.1 < 12 ∧ l.2.2 < 12) ∧ b < 12 ∧ b ≠ e ∧ IsMin (netOf L bl) b e c ∧
  ∀ ms : List Nat, ms.Pairwise (· < ·) → (∀ n, (∀ l ∈ L, l.2.1 < n ∧ l.2.2 < n) → b < n → ∀ x ∈ ms, x < n) → Fl.Sep b e (inS ms) → (netOf L bl).cut (inS ms) = c → Q (.d (.tuple [natsD ms, .int (c : Nat)])) os
/-! ### ways_between -/
abbrev s_ways_between : Stmt := topS 11
abbrev n_ways_between : List Str := ["levels", "blanks", "mark", "other", "many", "flow", "much", "_", "turn"]
theorem sc_ways_between : FnScope n_ways_between ["levels", "blanks", "mark", "other", "many"] (defScope s_ways_between) := ⟨rfl, rfl, rfl, by decide +kernel, rfl, by decide +kernel, by decide +kernel⟩
def r_ways_between : RS := (rSeq (rUnTri 5 6 7 (rCall sp_flow_between (rACons (rP (rD (rOp dIx (rN 0) (rP (rC (.int 1)))))) (rACons (rN 1) (rACons (rN 2) (rACons (rN 3) (rACons (rN 4) rANil)))))))
  (rSeq (rIfS (rCmp bLt (rN 6) (rN 4)) (rRet (rO (rC .none))) rNext)
  (rRet (rCB fTuple (rACons (rP (rD (rLc (rRng1 (rVar 4)) (rGn 8) rYes (rD (rCB fTuple (rACons (rP (rD (rCall sp_one_way (rACons (rP (rD (rOp dIx (rN 0) (rP (rC (.int 1)))))) (rACons (rN 5) (rACons (rN 2) (rACons (rN 3) rANil))))))) rANil))) [8]))) rANil)))))
theorem q_ways_between {P : Program} {w : World} {K : Fg} {mg : Str → Option Value} {base : Heap} {f : Addr} (g : Gs K mg) (h_flow_between : Has P w K mg base "flow_between" ["lines", "blanks", "begin", "end", "many"] 3 sp_flow_between) (h_one_way : Has P w K mg base "one_way" ["lines", "flow", "begin", "end"] 1 sp_one_way) (cdv : Value) (A : Around) (outer : List PySem.Env) (s : Shared) (H : Hp) (E : XK) (hr : Room 3 (A.deeper (envOfC "ways_between" (defScope s_ways_between) s.heap.objs.size f cdv))) :
    QSs (cxOf CX0 P w K mg base n_ways_between "ways_between" (defScope s_ways_between) f cdv A outer s H E).nox [] (defBody s_ways_between) r_ways_between :=
  (qss_cons (qs_unTri 5 6 7 rfl sc_ways_between.nd (qe_call h_flow_between (hr.mono (by decide)) (qa_cons ((qv_ix (qp_var 0) (qv_int).p)).p (qa_cons (qp_var 1) (qa_cons (qp_var 2) (qa_cons (qp_var 3) (qa_cons (qp_var 4) qa_nil)))))))
  (qss_cons (qs_if (qt_lt (qp_var 6) (qp_var 4)) (qss_one (qs_ret (QV.o qv_non))) qss_nil)
  (qss_one (qs_ret (qe_tuple g.tuple (qa_cons ((QE.v (qe_lc (own := [("turn", 8)]) rfl sc_ways_between.nd (qf_range1 g.range (qv_var 4)) (blkOk_by (by rfl)) (fun _ _ _ _ _ => (qg_name 8 sc_ways_between.nd)) (fun _ _ _ _ _ => qts_nil) (fun _ _ _ _ _ => (QE.v (qe_tuple g.tuple (qa_cons ((QE.v (qe_call h_one_way (hr.mono (by decide)) (qa_cons ((qv_ix (qp_var 0) (qv_int).p)).p (qa_cons (qp_var 5) (qa_cons (qp_var 2) (qa_cons (qp_var 3) qa_nil))))))).p qa_nil))))))).p qa_nil))))))

/-! ### least_cut -/
abbrev s_least_cut : Stmt := topS 16
abbrev n_least_cut : List Str := ["levels", "blanks", "mark", "other", "_", "much", "marks"]
theorem sc_least_cut : FnScope n_least_cut ["levels", "blanks", "mark", "other"] (defScope s_least_cut) := ⟨rfl, rfl, rfl, by decide +kernel, rfl, by decide +kernel, by decide +kernel⟩
def r_least_cut : RS := (rSeq (rUnTri 4 5 6 (rCall sp_flow_between (rACons (rP (rD (rOp dIx (rN 0) (rP (rC (.int 1)))))) (rACons (rN 1) (rACons (rN 2) (rACons (rN 3) (rACons (rP (rD (rCB fLen (rACons (rP (rD (rOp dIx (rN 0) (rP (rC (.int 1)))))) rANil)))) rANil)))))))
  (rRet (rO (rTup (rCons (rD (rCB fTuple (rACons (rN 6) rANil))) (rCons (rVar 5) rNil))))))
theorem q_least_cut {P : Program} {w : World} {K : Fg} {mg : Str → Option Value} {base : Heap} {f : Addr} (g : Gs K mg) (h_flow_between : Has P w K mg base "flow_between" ["lines", "blanks", "begin", "end", "many"] 3 sp_flow_between) (cdv : Value) (A : Around) (outer : List PySem.Env) (s : Shared) (H : Hp) (E : XK) (hr : Room 3 (A.deeper (envOfC "least_cut" (defScope s_least_cut) s.heap.objs.size f cdv))) :
    QSs (cxOf CX0 P w K mg base n_least_cut "least_cut" (defScope s_least_cut) f cdv A outer s H E).nox [] (defBody s_least_cut) r_least_cut :=
  (qss_cons (qs_unTri 4 5 6 rfl sc_least_cut.nd (qe_call h_flow_between (hr.mono (by decide)) (qa_cons ((qv_ix (qp_var 0) (qv_int).p)).p (qa_cons (qp_var 1) (qa_cons (qp_var 2) (qa_cons (qp_var 3) (qa_cons ((QE.v (qe_len g.len (qa_cons ((qv_ix (qp_var 0) (qv_int).p)).p qa_nil)))).p qa_nil)))))))
  (qss_one (qs_ret (QV.o (qv_tup (ql_cons (QE.v (qe_tuple g.tuple (qa_cons (qp_var 6) qa_nil))) (ql_cons (qv_var 5) ql_nil)))))))

theorem m_least_cut (os : List O) (Q : O → List O → Prop) (h : sp_least_cut os Q) : Ends r_least_cut n_least_cut os Q := by
  obtain ⟨ns, L, bl, b, e, c, rfl, hl, hL, hb, hbe, hc, q⟩ := h
  walk_at "go"
  refine ⟨L, bl, b, e, L.length, ?_, hl, hL, hb, hbe, fun fs m ms hf F hm s1 s2 hor => ?_⟩
  · show [_, _, _, _, O.d (PyData.int ((L.map lineD).length : Nat))] = _
    rw [List.length_map]
  have key : Fl.Sep b e (inS ms) ∧ (netOf L bl).cut (inS ms) = m := by
    rcases hor with z | ⟨z, z2⟩
    · exact z
    · have h1 := z2 _ (sep_one hbe)
      have h2 := cut_le (netOf L bl) fun v => v == b
      have h3 : (netOf L bl).n = L.length := rfl
      omega
  have em : m = c := by
    have h1 := hc.2 _ key.1
    obtain ⟨S, hS, e2⟩ := hc.1
    have h2 := F.le hS
    omega
  subst em
  walk_at "wh"
  refine ⟨fs, (m : Nat), natI ms, rfl, ?_⟩
  have fin := q ms s1 s2 key.1 key.2
  have e1 : (natI ms).map PyData.int = natD ms := by
    unfold natI natD
    rw [List.map_map]
    rfl
  walk_at "wh"
  refine ⟨(by decide : 2 ≤ sizeLine), ?_⟩
  walk_at "wh"
  unfold natsD at fin
  rw [← e1] at fin
  exact fin
theorem m_ways_between (os : List O) (Q : O → List O → Prop) (h : sp_ways_between os Q) : Ends r_ways_between n_ways_between os Q := by
  obtain ⟨ns, L, bl, b, e, many, c, rfl, hl, hL, hb, hbe, hc, q1, q2⟩ := h
  walk_at "go"
  refine ⟨L, bl, b, e, many, rfl, hl, hL, hb, hbe, fun fs m ms hf F hm s1 s2 hor => ?_⟩
  have hmc : m ≤ c := by
    obtain ⟨S, hS, e2⟩ := hc.1
    have h2 := F.le hS
    omega
  have hcl : c ≤ L.length := Nat.le_trans (hc.2 _ (sep_one hbe)) (cut_le _ _)
  walk_at "wh"
  refine ⟨fs, (m : Nat), natI ms, rfl, ?_⟩
  walk_at "go"
  refine decI (fun h => ?_) (fun h => ?_)
  · have h : decide (((m : Nat) : Int) < ((many : Nat) : Int)) = true := h
    have h := of_decide_eq_true h
    walk_at "go"
    refine q1 ?_
    rcases hor with z | ⟨z, _⟩
    · have := hc.2 _ z.1
      omega
    · omega
  · have h : ¬ decide (((m : Nat) : Int) < ((many : Nat) : Int)) = true := h
    have em : m = many := by simp at h; omega
    subst em
    have q2 := q2 hmc
    have en : ∀ g : List Int, g.map PyData.int = zD g := fun g => rfl
    walk_at "go"
    · refine ⟨fun i acc env => ∃ fs' Ws, env = [some (.d (lvD ns L)), some (.d (natsD bl)), some (.d (.int (b : Nat))), some (.d (.int (e : Nat))), some (.d (.int (m : Nat))), some (.own (zD fs')), some (.d (.int (m : Nat))), some (.own ((natI ms).map PyData.int)), none] ∧ acc = Ws.map wayD ∧ Ws.length = i ∧ i ≤ m ∧ fs'.length = L.length ∧ (netOf L bl).Sub (flo fs') b e (m - i) ∧ Good (netOf L bl) b e Ws ∧ (∀ k, flo fs' k = flo fs k ∨ flo fs' k = 0) ∧ ∀ W ∈ Ws, ∀ s ∈ W, flo fs' s.1 = 0, ⟨fs, [], rfl, rfl, rfl, Nat.zero_le _, hf, ⟨F.bal, F.lo, F.hi⟩, ⟨fun W h => (nomatch h), fun W h => (nomatch h), List.nodup_nil⟩, fun k => .inl rfl, fun W h => (nomatch h)⟩, ?_, ?_⟩
      · rintro i x acc env hx ⟨fs', Ws, rfl, rfl, hWl, him, hf', Sb, G, hs, hz⟩
        obtain ⟨ex, hi⟩ := rngD_at hx
        subst ex
        have hi : i < m := by omega
        walk_at "go"
        refine ⟨L, bl, fs', b, e, m - (i + 1), rfl, hl, hf', hL, hb, by rw [show m - (i + 1) + 1 = m - i by omega]; exact Sb, fun fs2 W hf2 S2 wy hW hs2 => ?_⟩
        have dis : ∀ k, k ∈ W.map (·.1) → flo fs' k ≠ 0 := fun k hk => by
          obtain ⟨s, hsm, rfl⟩ := List.mem_map.mp hk
          rw [(hW s hsm).1]
          rcases (wy.ok s hsm).2 with z | z <;> omega
        walk_at "wh"
        refine ⟨by rw [List.length_map, sizeLine_eq]; omega, fs2, Ws ++ [W], rfl, by rw [List.map_append]; rfl, by rw [List.length_append, List.length_singleton, hWl], hi, hf2, S2, ⟨fun V hV => ?_, fun V hV s hsV => ?_, ?_⟩, fun k => ?_, fun V hV s hsV => ?_⟩
        · rcases List.mem_append.mp hV with h | h
          · exact G.way V h
          · rw [List.mem_singleton.mp h]; exact wy
        · rcases List.mem_append.mp hV with h | h
          · exact G.bl V h s hsV
          · rw [List.mem_singleton.mp h] at hsV
            have h1 := dis s.1 (List.mem_map.mpr ⟨s, hsV, rfl⟩)
            have h2 : flo fs s.1 ≠ 0 := by
              rcases hs s.1 with z | z
              · rw [← z]; exact h1
              · exact absurd z h1
            have h3 := F.bl s.1 (wy.ok s hsV).1
            rw [← Bool.not_eq_true]
            exact fun z => h2 (h3 z)
        · unfold linesOf
          rw [List.map_append, List.flatten_append, List.nodup_append]
          refine ⟨G.nd, ?_, fun a ha x hx z => ?_⟩
          · have := wy.lines (flo fs') fun s h => (hW s h).1
            simpa using this
          · have hx : x ∈ W.map (·.1) := by simpa using hx
            subst z
            obtain ⟨l, hl1, hl2⟩ := List.mem_flatten.mp ha
            obtain ⟨V, hV, rfl⟩ := List.mem_map.mp hl1
            obtain ⟨s, hsV, rfl⟩ := List.mem_map.mp hl2
            exact dis _ hx (hz V hV s hsV)
        · rcases hs2 k with z | z
          · rw [z]; exact hs k
          · exact .inr z
        · rcases List.mem_append.mp hV with h | h
          · rcases hs2 s.1 with z | z
            · rw [z]; exact hz V h s hsV
            · exact z
          · rw [List.mem_singleton.mp h] at hsV
            exact (hW s hsV).2
      · rintro acc env ⟨fs', Ws, rfl, rfl, hWl, him, hf', Sb, G, hs, hz⟩
        rw [rngD_len] at hWl
        walk_at "wh"
        exact q2 Ws (by omega) G
    · omega
    · omega
theorem f_ways_between {P : Program} {w : World} {K : Fg} {mg : Str → Option Value} {base : Heap} {f : Addr} {fd : FuncData} (g : Gs K mg) (h_flow_between : Has P w K mg base "flow_between" ["lines", "blanks", "begin", "end", "many"] 3 sp_flow_between) (h_one_way : Has P w K mg base "one_way" ["lines", "flow", "begin", "end"] 1 sp_one_way) (F : Fun K "ways_between" "ways_between" s_ways_between f fd) : FnOk P w K mg base CX0 4 f fd ["levels", "blanks", "mark", "other", "many"] (SpOf K sp_ways_between) :=
  fn_ok F sc_ways_between [] (fun cdv A outer s H E hr => q_ways_between g h_flow_between h_one_way cdv A outer s H E hr) (by walk_at "len") (by walk_at "keep") m_ways_between

theorem f_least_cut {P : Program} {w : World} {K : Fg} {mg : Str → Option Value} {base : Heap} {f : Addr} {fd : FuncData} (g : Gs K mg) (h_flow_between : Has P w K mg base "flow_between" ["lines", "blanks", "begin", "end", "many"] 3 sp_flow_between) (F : Fun K "least_cut" "least_cut" s_least_cut f fd) : FnOk P w K mg base CX0 4 f fd ["levels", "blanks", "mark", "other"] (SpOf K sp_least_cut) :=
  fn_ok F sc_least_cut [] (fun cdv A outer s H E hr => q_least_cut g h_flow_between cdv A outer s H E hr) (by walk_at "len") (by walk_at "keep") m_least_cut
theorem mono_least_cut : sp_least_cut.Mono := by walk_at "mono"

end K76
set_option Elab.async false
set_option linter.all false
set_option maxRecDepth 100000
set_option maxHeartbeats 1000000
set_option exponentiation.threshold 20000
set_option pp.deepTerms false
set_option pp.maxSteps 500
namespace K76
open PySem PySem.Spec PyProof.Rows L2 Pf
local macro_rules | `(tactic| walk_at "go") => `(tactic| (conv => whnf) <;> repeat ((first | refine atE rfl ?_ | refine andR ?_ ?_); (conv => whnf)))
local macro_rules | `(tactic| walk_at "wh") => `(tactic| conv => whnf)
local macro_rules | `(tactic| walk_at "len") => `(tactic| (intro os Q h; (repeat (obtain ⟨_, h⟩ := h)); subst_vars; rfl))
local macro_rules | `(tactic| walk_at "keep") => `(tactic| (intro os Q h; (repeat (obtain ⟨_, h⟩ := h)); subst_vars; simp [keepOk]))
local macro_rules | `(tactic| walk_at "mono") => `(tactic| (intro os k k' f; repeat (first | exact f _ _ | refine Exists.imp fun _ => ?_ | refine And.imp_right ?_ | refine forall_imp fun _ => ?_)))
/-! whether values are ways -/
open Fl (Net)
def clearW (bl : List Nat) (W : List (Nat × Int)) : Bool := W.all fun s => !bl.contains s.1
def sp_is_step : FSp := fun os Q => ∃ (L : List Ln) (bl : List Nat) (s : Nat × Int), os = [.d (linesD L), .d (natsD bl), .d (stD s)] ∧ s.1 < L.length ∧ (s.2 = 1 ∨ s.2 = -1) ∧ Q (.d (.bool (!bl.contains s.1))) os
def sp_is_way : FSp := fun os Q => ∃ (L : List Ln) (bl : List Nat) (b e : Nat) (W : List (Nat × Int)), os = [.d (linesD L), .d (natsD bl), .d (.int (b : Nat)), .d (.int (e : Nat)), .d (wayD W)] ∧ L.length ≤ 60 ∧ (∀ l ∈ L, l.2.1 < 12 ∧ l.2.2 < 12) ∧ b < 12 ∧ (netOf L bl).Way b e W ∧ Q (.d (.bool (clearW bl W))) os
def sp_is_ways : FSp := fun os Q => ∃ (ns : List Str) (L : List Ln) (bl : List Nat) (b e : Nat) (many : Int) (Ws : List (List (Nat × Int))), os = [.d (lvD ns L), .d (natsD bl), .d (.int (b : Nat)), .d (.int (e : Nat)), .d (.int many), .d (.tuple (Ws.map wayD))] ∧ L.length ≤ 60 ∧ (∀ l ∈ L, l.2.1 < 12 ∧ l.2.2 < 12) ∧ b < 12 ∧ Ws.length ≤ 100 ∧ (∀ W ∈ Ws, (netOf L bl).Way b e W) ∧ (linesOf Ws).Nodup ∧
  Q (.d (.bool (decide ((Ws.length : Int) = many) && Ws.all (clearW bl)))) os
/-! ### is_step -/
abbrev s_is_step : Stmt := topS 12
abbrev n_is_step : List Str := ["lines", "blanks", "thing"]
theorem sc_is_step : FnScope n_is_step ["lines", "blanks", "thing"] (defScope s_is_step) := ⟨rfl, rfl, rfl, by decide +kernel, rfl, by decide +kernel, by decide +kernel⟩
def r_is_step : RS := (rSeq (rIfS (rOr (rNot (rTb (rD (rCall sp_tuple_of (rACons (rN 2) (rACons (rP (rC (.int 2))) rANil)))))) (rNot (rTb (rD (rCall sp_integer_within (rACons (rP (rD (rOp dIx (rN 2) (rP (rC (.int 0)))))) (rACons (rP (rC (.int 0))) (rACons (rP (rD (rOp bSub (rP (rD (rCB fLen (rACons (rN 0) rANil)))) (rP (rC (.int 1)))))) rANil)))))))) (rRet (rO (rC (.bool false)))) rNext)
  (rRet (rO (rAndV (rTV (rCmp (dIn true) (rP (rD (rOp dIx (rN 2) (rP (rC (.int 0)))))) (rN 1))) (rAndV (rD (rCall sp_integer_within (rACons (rP (rD (rOp dIx (rN 2) (rP (rC (.int 1)))))) (rACons (rP (rNeg (rC (.int 1)))) (rACons (rP (rC (.int 1))) rANil))))) (rTV (rCmp (dEq true) (rP (rD (rOp dIx (rN 2) (rP (rC (.int 1)))))) (rP (rC (.int 0))))))))))
theorem q_is_step {P : Program} {w : World} {K : Fg} {mg : Str → Option Value} {base : Heap} {f : Addr} (g : Gs K mg) (h_integer_within : Has P w K mg base "integer_within" ["thing", "low", "high"] 2 sp_integer_within) (h_tuple_of : Has P w K mg base "tuple_of" ["thing", "many"] 1 sp_tuple_of) (cdv : Value) (A : Around) (outer : List PySem.Env) (s : Shared) (H : Hp) (E : XK) (hr : Room 2 (A.deeper (envOfC "is_step" (defScope s_is_step) s.heap.objs.size f cdv))) :
    QSs (cxOf CX0 P w K mg base n_is_step "is_step" (defScope s_is_step) f cdv A outer s H E).nox [] (defBody s_is_step) r_is_step :=
  (qss_cons (qs_if (QW.t (qw_or (qt_not (qt_call (QE.v (qe_call h_tuple_of (hr.mono (by decide)) (qa_cons (qp_var 2) (qa_cons (qv_int).p qa_nil)))))) (qw_or1 (qt_not (qt_call (QE.v (qe_call h_integer_within (hr.mono (by decide)) (qa_cons ((qv_ix (qp_var 2) (qv_int).p)).p (qa_cons (qv_int).p (qa_cons ((QE.v (qe_sub ((QE.v (qe_len g.len (qa_cons (qp_var 0) qa_nil)))).p (qv_int).p))).p qa_nil)))))))))) (qss_one (qs_ret (QV.o qv_bl))) qss_nil)
  (qss_one (qs_ret (QV.o (qv_and (qv_notin ((qv_ix (qp_var 2) (qv_int).p)).p (qp_var 1)) (qv_and (QE.v (qe_call h_integer_within (hr.mono (by decide)) (qa_cons ((qv_ix (qp_var 2) (qv_int).p)).p (qa_cons ((qv_neg qv_int)).p (qa_cons (qv_int).p qa_nil))))) (qv_one (qv_ne hr.units ((qv_ix (qp_var 2) (qv_int).p)).p (qv_int).p))))))))

/-! ### is_way -/
abbrev s_is_way : Stmt := topS 13
abbrev n_is_way : List Str := ["lines", "blanks", "mark", "other", "thing", "step", "marks", "number", "tail", "head"]
theorem sc_is_way : FnScope n_is_way ["lines", "blanks", "mark", "other", "thing"] (defScope s_is_way) := ⟨rfl, rfl, rfl, by decide +kernel, rfl, by decide +kernel, by decide +kernel⟩
def r_is_way : RS := (rSeq (rIfS (rOr (rNot (rTb (rIsi isTuple (rN 4)))) (rNot (rTb (rD (rCB fAll (rACons (rP (rD (rLc (rFs (rVar 4)) (rGn 5) rYes (rD (rCall sp_is_step (rACons (rN 0) (rACons (rN 1) (rACons (rN 5) rANil))))) [5]))) rANil)))))) (rRet (rO (rC (.bool false)))) rNext)
  (rSeq (rSet 6 (rLst (rCons (rVar 2) rNil)))
  (rSeq (rFor (rFs (rVar 4)) (rGt 2 (rGcons (rGn 7) (rGcons (rGn 5) rGnil))) (rSeq (rAsgT (rD (rSl (rP (rD (rOp dIx (rN 0) (rN 7)))) (rSoI (rC (.int 1))) rNoI)) (rGt 2 (rGcons (rGn 8) (rGcons (rGn 9) rGnil))))
  (rSeq (rIfS (rCmp (dEq true) (rP (rD (rOp dIx (rN 6) (rP (rNeg (rC (.int 1))))))) (rP (rD (rIf (rCmp (dEq false) (rN 5) (rP (rC (.int 1)))) (rO (rVar 8)) (rO (rVar 9)))))) (rRet (rO (rC (.bool false)))) rNext)
  (rDrop (rApp 6 (rD (rIf (rCmp (dEq false) (rN 5) (rP (rC (.int 1)))) (rO (rVar 9)) (rO (rVar 8)))))))))
  (rRet (rO (rAndV (rTV (rCmp (dEq false) (rP (rD (rOp dIx (rN 6) (rP (rNeg (rC (.int 1))))))) (rN 3))) (rTV (rCmp (dEq false) (rP (rLenSetI (rN 6))) (rP (rD (rCB fLen (rACons (rN 6) rANil))))))))))))
theorem q_is_way {P : Program} {w : World} {K : Fg} {mg : Str → Option Value} {base : Heap} {f : Addr} (g : Gs K mg) (h_is_step : Has P w K mg base "is_step" ["lines", "blanks", "thing"] 3 sp_is_step) (cdv : Value) (A : Around) (outer : List PySem.Env) (s : Shared) (H : Hp) (E : XK) (hr : Room 3 (A.deeper (envOfC "is_way" (defScope s_is_way) s.heap.objs.size f cdv))) :
    QSs (cxOf CX0 P w K mg base n_is_way "is_way" (defScope s_is_way) f cdv A outer s H E).nox [] (defBody s_is_way) r_is_way :=
  (qss_cons (qs_if (QW.t (qw_or (qt_not (qt_call (qv_isi_tuple g.isinstance g.tuple (qp_var 4)))) (qw_or1 (qt_not (qt_call (QE.v (qe_all rfl g.all (qa_cons ((QE.v (qe_lc (own := [("step", 5)]) rfl sc_is_way.nd (qf_seq (qv_var 4)) (blkOk_by (by rfl)) (fun _ _ _ _ _ => (qg_name 5 sc_is_way.nd)) (fun _ _ _ _ _ => qts_nil) (fun _ _ _ _ _ => (QE.v (qe_call h_is_step (hr.mono (by decide)) (qa_cons (qp_var 0) (qa_cons (qp_var 1) (qa_cons (qp_var 5) qa_nil))))))))).p qa_nil)))))))) (qss_one (qs_ret (QV.o qv_bl))) qss_nil)
  (qss_cons (qs_set 6 sc_is_way.nd (qe_lst (ql_cons (qv_var 2) ql_nil)))
  (qss_cons (qs_for PassesOwn.never rfl (qf_seq (qv_var 4)) (qg_tup 2 rfl (qgs_cons (qg_name 7 sc_is_way.nd) (qgs_cons (qg_name 5 sc_is_way.nd) qgs_nil))) (qss_cons (qs_asgT (QE.v (qe_slice ((qv_ix (qp_var 0) (qp_var 7))).p (qi_some qv_int) qi_none)) (qg_tup 2 rfl (qgs_cons (qg_name 8 sc_is_way.nd) (qgs_cons (qg_name 9 sc_is_way.nd) qgs_nil))))
  (qss_cons (qs_if (qt_ne hr.units ((qv_ix (qp_var 6) ((qv_neg qv_int)).p)).p ((QE.v (qe_if (qt_eq hr.units (qp_var 5) (qv_int).p) (QV.o (qv_var 8)) (QV.o (qv_var 9))))).p) (qss_one (qs_ret (QV.o qv_bl))) qss_nil)
  (qss_one (qs_expr (qe_append 6 (QE.v (qe_if (qt_eq hr.units (qp_var 5) (qv_int).p) (QV.o (qv_var 9)) (QV.o (qv_var 8))))))))))
  (qss_one (qs_ret (QV.o (qv_and (qv_eq hr.units ((qv_ix (qp_var 6) ((qv_neg qv_int)).p)).p (qp_var 3)) (qv_one (qv_eq hr.units ((qv_lensetI rfl g.len g.set (qp_var 6))).p ((QE.v (qe_len g.len (qa_cons (qp_var 6) qa_nil)))).p)))))))))

/-! ### is_ways -/
abbrev s_is_ways : Stmt := topS 14
abbrev n_is_ways : List Str := ["levels", "blanks", "mark", "other", "many", "thing", "way", "told", "number", "_"]
theorem sc_is_ways : FnScope n_is_ways ["levels", "blanks", "mark", "other", "many", "thing"] (defScope s_is_ways) := ⟨rfl, rfl, rfl, by decide +kernel, rfl, by decide +kernel, by decide +kernel⟩
def r_is_ways : RS := (rSeq (rIfS (rOr (rNot (rTb (rD (rCall sp_tuple_of (rACons (rN 5) (rACons (rN 4) rANil)))))) (rNot (rTb (rD (rCB fAll (rACons (rP (rD (rLc (rFs (rVar 5)) (rGn 6) rYes (rD (rCall sp_is_way (rACons (rP (rD (rOp dIx (rN 0) (rP (rC (.int 1)))))) (rACons (rN 1) (rACons (rN 2) (rACons (rN 3) (rACons (rN 6) rANil))))))) [6]))) rANil)))))) (rRet (rO (rC (.bool false)))) rNext)
  (rSeq (rSet 7 (rLc2 (rFs (rVar 5)) (rGn 6) rYes (rVar 6) (rGt 2 (rGcons (rGn 8) (rGcons (rGn 9) rGnil))) rYes (rVar 8) [6, 8, 9] [8, 9]))
  (rRet (rO (rTV (rCmp (dEq false) (rP (rLenSetI (rN 7))) (rP (rD (rCB fLen (rACons (rN 7) rANil))))))))))
theorem q_is_ways {P : Program} {w : World} {K : Fg} {mg : Str → Option Value} {base : Heap} {f : Addr} (g : Gs K mg) (h_tuple_of : Has P w K mg base "tuple_of" ["thing", "many"] 1 sp_tuple_of) (h_is_way : Has P w K mg base "is_way" ["lines", "blanks", "mark", "other", "thing"] 4 sp_is_way) (cdv : Value) (A : Around) (outer : List PySem.Env) (s : Shared) (H : Hp) (E : XK) (hr : Room 4 (A.deeper (envOfC "is_ways" (defScope s_is_ways) s.heap.objs.size f cdv))) :
    QSs (cxOf CX0 P w K mg base n_is_ways "is_ways" (defScope s_is_ways) f cdv A outer s H E).nox [] (defBody s_is_ways) r_is_ways :=
  (qss_cons (qs_if (QW.t (qw_or (qt_not (qt_call (QE.v (qe_call h_tuple_of (hr.mono (by decide)) (qa_cons (qp_var 5) (qa_cons (qp_var 4) qa_nil)))))) (qw_or1 (qt_not (qt_call (QE.v (qe_all rfl g.all (qa_cons ((QE.v (qe_lc (own := [("way", 6)]) rfl sc_is_ways.nd (qf_seq (qv_var 5)) (blkOk_by (by rfl)) (fun _ _ _ _ _ => (qg_name 6 sc_is_ways.nd)) (fun _ _ _ _ _ => qts_nil) (fun _ _ _ _ _ => (QE.v (qe_call h_is_way (hr.mono (by decide)) (qa_cons ((qv_ix (qp_var 0) (qv_int).p)).p (qa_cons (qp_var 1) (qa_cons (qp_var 2) (qa_cons (qp_var 3) (qa_cons (qp_var 6) qa_nil))))))))))).p qa_nil)))))))) (qss_one (qs_ret (QV.o qv_bl))) qss_nil)
  (qss_cons (qs_setLc2 (own := [("way", 6), ("number", 8), ("_", 9)]) (vs1 := [8, 9]) (sl := [6]) (sl1 := [8, 9]) 7 rfl sc_is_ways.nd (qf_seq (qv_var 5)) (blkOk_by (by rfl)) (by decide) (fun _ _ _ _ _ => (qg_name 6 sc_is_ways.nd)) (fun _ _ _ _ _ => qts_nil) (fun _ _ _ _ _ => (qv_var 6)) (fun _ _ _ _ _ => (qg_tup 2 rfl (qgs_cons (qg_name 8 sc_is_ways.nd) (qgs_cons (qg_name 9 sc_is_ways.nd) qgs_nil)))) (fun _ _ _ _ _ => qts_nil) (fun _ _ _ _ _ => (qv_var 8)))
  (qss_one (qs_ret (QV.o (qv_eq hr.units ((qv_lensetI rfl g.len g.set (qp_var 7))).p ((QE.v (qe_len g.len (qa_cons (qp_var 7) qa_nil)))).p))))))

theorem m_is_step (os : List O) (Q : O → List O → Prop) (h : sp_is_step os Q) : Ends r_is_step n_is_step os Q := by
  obtain ⟨L, bl, s, rfl, hs, hd, q⟩ := h
  walk_at "go"
  refine ⟨_, _, rfl, ?_⟩
  walk_at "go"
  refine ⟨_, _, _, rfl, ?_⟩
  have e1 : decide ((0 : Int) ≤ ((s.1 : Nat) : Int) ∧ ((s.1 : Nat) : Int) ≤ (fun i j : Int => i - j) ((L.map lineD).length : Nat) 1) = true := by
    rw [List.length_map]
    exact decide_eq_true ⟨by omega, by show ((s.1 : Nat) : Int) ≤ (L.length : Nat) - 1; omega⟩
  rw [e1]
  walk_at "go"
  · refine decI (fun h => ?_) (fun h => ?_)
    · have h : (!inD (.int (s.1 : Nat)) (natD bl)) = true := h
      rw [inD_nat] at h
      rw [h] at q
      walk_at "go"
      refine ⟨_, _, _, rfl, ?_⟩
      have e2 : decide ((-1 : Int) ≤ s.2 ∧ s.2 ≤ 1) = true := decide_eq_true (by rcases hd with z | z <;> omega)
      rw [e2]
      walk_at "go"
      have e3 : (!decide (s.2 = 0)) = true := by
        rw [decide_eq_false (by rcases hd with z | z <;> omega)]
        rfl
      rw [← e3] at q
      exact q
    · have h : ¬ (!inD (.int (s.1 : Nat)) (natD bl)) = true := h
      rw [inD_nat] at h
      walk_at "wh"
      rw [Bool.not_eq_true] at h
      rw [h] at q
      exact q
  · exact flat_nat bl
  · rfl
theorem lines_fin {L : List Ln} {bl : List Nat} (hL : ∀ l ∈ L, l.2.1 < 12 ∧ l.2.2 < 12) {s : Nat × Int} (hs : s.1 < L.length) : (netOf L bl).fin s < 12 := by
  obtain ⟨l, hl, hm⟩ := getAt hs
  have := hL l hm
  unfold Fl.Net.fin
  split
  · rw [net_h hl]; exact this.2
  · rw [net_t hl]; exact this.1
theorem way_few {L : List Ln} {bl : List Nat} {b p : Nat} {W : List (Nat × Int)} (hL : ∀ l ∈ L, l.2.1 < 12 ∧ l.2.2 < 12) (hb : b < 12) (w : (netOf L bl).Way b p W) : W.length ≤ 12 := by
  have := nodup_lt 12 _ w.nodup fun x hx => by
    rcases List.mem_cons.mp hx with z | z
    · rw [z]; exact hb
    · obtain ⟨s, hs, rfl⟩ := List.mem_map.mp z
      exact lines_fin hL (w.ok s hs).1
  rw [Fl.marks_len] at this
  omega
theorem bools_all (l : List Bool) : boolsOf (l.map PyData.bool) = some l := boolsOf_map l
theorem natI_nodup {l : List Nat} (h : l.Nodup) : (natI l).Nodup := by
  unfold natI
  exact List.pairwise_map.mpr (h.imp fun {a b} hab => by omega)
theorem natI_len (l : List Nat) : (natI l).length = l.length := List.length_map _
theorem m_is_way (os : List O) (Q : O → List O → Prop) (h : sp_is_way os Q) : Ends r_is_way n_is_way os Q := by
  obtain ⟨L, bl, b, e, W, rfl, hl, hL, hb, hw, q⟩ := h
  have hWl := way_few hL hb hw
  walk_at "go"
  refine lc_mapE (ys := (W.map fun s => !bl.contains s.1).map PyData.bool) (fun env => ∃ o5 o6 o7 o8 o9, env = [some (.d (linesD L)), some (.d (natsD bl)), some (.d (.int (b : Nat))), some (.d (.int (e : Nat))), some (.d (wayD W)), o5, o6, o7, o8, o9]) ⟨_, _, _, _, _, rfl⟩ (by simp) (by rw [List.length_map]; omega) (fun i x y k e' he' hx hy hk => ?_) ?_
  · obtain ⟨o5, o6, o7, o8, o9, rfl⟩ := he'
    obtain ⟨s, hs, rfl⟩ := get_map hx
    rw [List.getElem?_map, List.getElem?_map, hs] at hy
    cases hy
    have ok := hw.ok s (List.mem_of_getElem? hs)
    walk_at "wh"
    refine ⟨L, bl, s, rfl, ok.1, ok.2, ?_⟩
    walk_at "wh"
    refine hk _ ⟨_, _, _, _, _, rfl⟩
  rintro env ⟨o5, o6, o7, o8, o9, rfl⟩
  walk_at "wh"
  refine ⟨_, bools_all _, ?_⟩
  have e1 : ((W.map fun s => !bl.contains s.1).all id) = clearW bl W := by
    unfold clearW
    rw [List.all_map]
    rfl
  walk_at "go"
  refine decI (fun h => ?_) (fun h => ?_)
  · have h : (!((W.map fun s => !bl.contains s.1).all id)) = true := h
    rw [e1] at h
    have hcl : clearW bl W = false := by simpa using h
    rw [hcl] at q
    walk_at "go"
    exact q
  · have h : ¬ (!((W.map fun s => !bl.contains s.1).all id)) = true := h
    rw [e1] at h
    have hcl : clearW bl W = true := by simpa using h
    rw [hcl] at q
    walk_at "go"
    · refine ⟨fun i env => ∃ o5 o7 o8 o9, env = [some (.d (linesD L)), some (.d (natsD bl)), some (.d (.int (b : Nat))), some (.d (.int (e : Nat))), some (.d (wayD W)), o5, some (.own (natD ((netOf L bl).marks b (W.take i)))), o7, o8, o9], ⟨_, _, _, _, rfl⟩, ?_, ?_⟩
      · rintro i x env hx ⟨o5, o7, o8, o9, rfl⟩
        obtain ⟨⟨k, d⟩, hs, rfl⟩ := get_map hx
        have ok := hw.ok _ (List.mem_of_getElem? hs)
        have hi := (List.getElem?_eq_some_iff.mp hs).1
        have ok1 : k < L.length := ok.1
        obtain ⟨l, hlk, _⟩ := getAt ok1
        have hlast : atI (natD ((netOf L bl).marks b (W.take i))) (-1) = some (.int ((netOf L bl).beg (k, d) : Nat)) := by
          refine atI_last ?_
          rw [natD_len, Fl.marks_len, List.length_take, Nat.min_eq_left (by omega), ← Fl.marks_take]
          unfold natD
          rw [List.getElem?_map, Nat.add_sub_cancel, List.getElem?_take, if_pos (by omega), hw.chain.begs, List.getElem?_append_left (by rw [List.length_map]; exact hi), List.getElem?_map, hs]
          rfl
        have enext : natD ((netOf L bl).marks b (W.take (i + 1))) = natD ((netOf L bl).marks b (W.take i)) ++ [.int ((netOf L bl).fin (k, d) : Nat)] := by
          rw [natD_snoc, ← Fl.marks_snoc, List.take_add_one, hs]
          rfl
        have hsz : (natD ((netOf L bl).marks b (W.take i))).length < sizeLine := by
          rw [natD_len, Fl.marks_len, List.length_take, sizeLine_eq]
          omega
        rcases ok.2 with z | z
        · have z : d = 1 := z
          subst z
          have hb1 : (netOf L bl).beg (k, 1) = l.2.1 := net_t hlk
          have hf1 : (netOf L bl).fin (k, 1) = l.2.2 := net_h hlk
          rw [hb1] at hlast
          rw [hf1] at enext
          walk_at "wh"
          refine ⟨rfl, ?_⟩
          walk_at "wh"
          refine ⟨_, atI_map hlk, ?_⟩
          walk_at "wh"
          refine ⟨rfl, ?_⟩
          walk_at "wh"
          refine ⟨_, hlast, ?_⟩
          walk_at "wh"
          refine decI (fun h => ?_) (fun h => ?_)
          · have h : (!decide (((l.2.1 : Nat) : Int) = ((l.2.1 : Nat) : Int))) = true := h
            simp at h
          · walk_at "wh"
            refine ⟨hsz, ?_⟩
            walk_at "wh"
            rw [enext]
            exact ⟨_, _, _, _, rfl⟩
        · have z : d = -1 := z
          subst z
          have hb1 : (netOf L bl).beg (k, -1) = l.2.2 := net_h hlk
          have hf1 : (netOf L bl).fin (k, -1) = l.2.1 := net_t hlk
          rw [hb1] at hlast
          rw [hf1] at enext
          walk_at "wh"
          refine ⟨rfl, ?_⟩
          walk_at "wh"
          refine ⟨_, atI_map hlk, ?_⟩
          walk_at "wh"
          refine ⟨rfl, ?_⟩
          walk_at "wh"
          refine ⟨_, hlast, ?_⟩
          walk_at "wh"
          refine decI (fun h => ?_) (fun h => ?_)
          · have h : (!decide (((l.2.2 : Nat) : Int) = ((l.2.2 : Nat) : Int))) = true := h
            simp at h
          · walk_at "wh"
            refine ⟨hsz, ?_⟩
            walk_at "wh"
            rw [enext]
            exact ⟨_, _, _, _, rfl⟩
      · rintro env ⟨o5, o7, o8, o9, rfl⟩
        rw [List.length_map, List.take_length]
        have hlast : atI (natD ((netOf L bl).marks b W)) (-1) = some (.int (e : Nat)) := by
          refine atI_last ?_
          rw [natD_len, Fl.marks_len]
          unfold natD
          rw [List.getElem?_map, Nat.add_sub_cancel, hw.chain.last]
          rfl
        walk_at "go"
        refine ⟨_, hlast, ?_⟩
        walk_at "go"
        refine decI (fun h => ?_) (fun h => ?_)
        · walk_at "go"
          refine ⟨natI ((netOf L bl).marks b W), intsOf_nat _, natI_nodup hw.nodup, by rw [natI_len, Fl.marks_len]; omega, ?_⟩
          rw [natI_len]
          walk_at "go"
          have e3 : decide (((((netOf L bl).marks b W).length : Nat) : Int) = ((natD ((netOf L bl).marks b W)).length : Nat)) = true := by
            rw [natD_len]
            exact decide_eq_true rfl
          rw [← e3] at q
          exact q
        · have h : ¬ decide (((e : Nat) : Int) = ((e : Nat) : Int)) = true := h
          simp at h
    · exact (by decide : 1 ≤ sizeLine)
theorem m_is_ways (os : List O) (Q : O → List O → Prop) (h : sp_is_ways os Q) : Ends r_is_ways n_is_ways os Q := by
  obtain ⟨ns, L, bl, b, e, many, Ws, rfl, hl, hL, hb, hz, hw, hn, q⟩ := h
  walk_at "go"
  refine ⟨_, _, rfl, ?_⟩
  have e0 : (((Ws.map wayD).length : Nat) : Int) = (Ws.length : Nat) := by rw [List.length_map]
  rw [e0]
  cases hm : decide (((Ws.length : Nat) : Int) = many) with
  | false =>
    rw [hm] at q
    walk_at "go"
    exact q
  | true =>
    rw [hm, Bool.true_and] at q
    have fewL : (linesOf Ws).length ≤ L.length := nodup_lt _ _ hn fun x hx => by
      obtain ⟨l, hl1, hl2⟩ := List.mem_flatten.mp hx
      obtain ⟨V, hV, rfl⟩ := List.mem_map.mp hl1
      obtain ⟨s, hsV, rfl⟩ := List.mem_map.mp hl2
      exact ((hw V hV).ok s hsV).1
    walk_at "go"
    refine lc_mapE (ys := (Ws.map (clearW bl)).map PyData.bool) (fun env => ∃ o6, env = [some (.d (lvD ns L)), some (.d (natsD bl)), some (.d (.int (b : Nat))), some (.d (.int (e : Nat))), some (.d (.int many)), some (.d (.tuple (Ws.map wayD))), o6, none, none, none]) ⟨_, rfl⟩ (by simp) (by rw [List.length_map]; omega) (fun i x y k e' he' hx hy hk => ?_) ?_
    · obtain ⟨o6, rfl⟩ := he'
      obtain ⟨V, hs, rfl⟩ := get_map hx
      rw [List.getElem?_map, List.getElem?_map, hs] at hy
      cases hy
      walk_at "go"
      refine ⟨L, bl, b, e, V, rfl, hl, hL, hb, hw V (List.mem_of_getElem? hs), ?_⟩
      walk_at "wh"
      exact hk _ ⟨_, rfl⟩
    rintro env ⟨o6, rfl⟩
    walk_at "wh"
    refine ⟨_, bools_all _, ?_⟩
    have e1 : ((Ws.map (clearW bl)).all id) = Ws.all (clearW bl) := by
      rw [List.all_map]
      rfl
    walk_at "go"
    refine decI (fun h => ?_) (fun h => ?_)
    · have h : (!((Ws.map (clearW bl)).all id)) = true := h
      rw [e1] at h
      have hcl : Ws.all (clearW bl) = false := by simpa using h
      rw [hcl] at q
      walk_at "go"
      exact q
    · have h : ¬ (!((Ws.map (clearW bl)).all id)) = true := h
      rw [e1] at h
      have hcl : Ws.all (clearW bl) = true := by simpa using h
      rw [hcl] at q
      walk_at "go"
      refine ⟨fun i acc env => ∃ o6 o8 o9, env = [some (.d (lvD ns L)), some (.d (natsD bl)), some (.d (.int (b : Nat))), some (.d (.int (e : Nat))), some (.d (.int many)), some (.d (.tuple (Ws.map wayD))), o6, none, o8, o9] ∧ acc = natD (linesOf (Ws.take i)), ⟨_, _, _, rfl, rfl⟩, ?_, ?_⟩
      · rintro i x acc env hx ⟨o6, o8, o9, rfl, rfl⟩
        obtain ⟨V, hV, rfl⟩ := get_map hx
        have hsub : ∀ j, (linesOf (Ws.take i) ++ (V.take j).map (·.1)).length ≤ 60 := fun j => by
          have e2 : linesOf (Ws.take (i + 1)) = linesOf (Ws.take i) ++ V.map (·.1) := by
            unfold linesOf
            rw [List.take_add_one, hV, List.map_append, List.flatten_append]
            simp
          have h1 : (linesOf (Ws.take (i + 1))).length ≤ (linesOf Ws).length := by
            have e3 : linesOf Ws = linesOf (Ws.take (i + 1)) ++ linesOf (Ws.drop (i + 1)) := by
              unfold linesOf
              rw [← List.flatten_append, ← List.map_append, List.take_append_drop]
            rw [e3, List.length_append]
            omega
          rw [e2] at h1
          rw [List.length_append, List.length_map] at h1 ⊢
          rw [List.length_take]
          omega
        walk_at "go"
        refine ⟨fun j acc e4 => ∃ o8 o9, e4 = [some (.d (lvD ns L)), some (.d (natsD bl)), some (.d (.int (b : Nat))), some (.d (.int (e : Nat))), some (.d (.int many)), some (.d (.tuple (Ws.map wayD))), some (.d (wayD V)), none, o8, o9] ∧ acc = natD (linesOf (Ws.take i) ++ (V.take j).map (·.1)), ⟨_, _, rfl, by simp⟩, ?_, ?_⟩
        · rintro j y acc1 e4 hy ⟨o8, o9, rfl, rfl⟩
          obtain ⟨s, hs, rfl⟩ := get_map hy
          walk_at "wh"
          refine ⟨rfl, ?_⟩
          walk_at "wh"
          have h1 := hsub j
          refine ⟨by rw [natD_len, sizeLine_eq]; omega, _, _, rfl, ?_⟩
          rw [List.take_add_one, hs, List.map_append, ← List.append_assoc]
          unfold natD
          rw [List.map_append (l₁ := linesOf (Ws.take i) ++ (V.take j).map (·.1))]
          rfl
        · rintro acc1 e4 ⟨o8, o9, rfl, rfl⟩
          rw [List.length_map, List.take_length]
          refine ⟨_, _, _, rfl, ?_⟩
          congr 1
          unfold linesOf
          rw [List.take_add_one, hV, List.map_append, List.flatten_append]
          simp
      · rintro acc env ⟨o6, o8, o9, rfl, rfl⟩
        rw [List.length_map, List.take_length]
        walk_at "go"
        refine ⟨natI (linesOf Ws), intsOf_nat _, natI_nodup hn, by rw [natI_len]; omega, ?_⟩
        rw [natI_len]
        walk_at "go"
        have e3 : decide ((((linesOf Ws).length : Nat) : Int) = ((natD (linesOf Ws)).length : Nat)) = true := by
          rw [natD_len]
          exact decide_eq_true rfl
        rw [← e3] at q
        exact q
theorem f_is_step {P : Program} {w : World} {K : Fg} {mg : Str → Option Value} {base : Heap} {f : Addr} {fd : FuncData} (g : Gs K mg) (h_integer_within : Has P w K mg base "integer_within" ["thing", "low", "high"] 2 sp_integer_within) (h_tuple_of : Has P w K mg base "tuple_of" ["thing", "many"] 1 sp_tuple_of) (F : Fun K "is_step" "is_step" s_is_step f fd) : FnOk P w K mg base CX0 3 f fd ["lines", "blanks", "thing"] (SpOf K sp_is_step) :=
  fn_ok F sc_is_step [] (fun cdv A outer s H E hr => q_is_step g h_integer_within h_tuple_of cdv A outer s H E hr) (by walk_at "len") (by walk_at "keep") m_is_step
theorem mono_is_step : sp_is_step.Mono := by walk_at "mono"

theorem f_is_way {P : Program} {w : World} {K : Fg} {mg : Str → Option Value} {base : Heap} {f : Addr} {fd : FuncData} (g : Gs K mg) (h_is_step : Has P w K mg base "is_step" ["lines", "blanks", "thing"] 3 sp_is_step) (F : Fun K "is_way" "is_way" s_is_way f fd) : FnOk P w K mg base CX0 4 f fd ["lines", "blanks", "mark", "other", "thing"] (SpOf K sp_is_way) :=
  fn_ok F sc_is_way [] (fun cdv A outer s H E hr => q_is_way g h_is_step cdv A outer s H E hr) (by walk_at "len") (by walk_at "keep") m_is_way
theorem mono_is_way : sp_is_way.Mono := by walk_at "mono"

theorem f_is_ways {P : Program} {w : World} {K : Fg} {mg : Str → Option Value} {base : Heap} {f : Addr} {fd : FuncData} (g : Gs K mg) (h_tuple_of : Has P w K mg base "tuple_of" ["thing", "many"] 1 sp_tuple_of) (h_is_way : Has P w K mg base "is_way" ["lines", "blanks", "mark", "other", "thing"] 4 sp_is_way) (F : Fun K "is_ways" "is_ways" s_is_ways f fd) : FnOk P w K mg base CX0 5 f fd ["levels", "blanks", "mark", "other", "many", "thing"] (SpOf K sp_is_ways) :=
  fn_ok F sc_is_ways [] (fun cdv A outer s H E hr => q_is_ways g h_tuple_of h_is_way cdv A outer s H E hr) (by walk_at "len") (by walk_at "keep") m_is_ways
theorem mono_is_ways : sp_is_ways.Mono := by walk_at "mono"

end K76
set_option Elab.async false
set_option linter.all false
set_option maxRecDepth 100000
set_option maxHeartbeats 1000000
set_option exponentiation.threshold 20000
set_option pp.deepTerms false
set_option pp.maxSteps 500
namespace K76
open PySem PySem.Spec PyProof.Rows L2 Pf
local macro_rules | `(tactic| walk_at "go") => `(tactic| (conv => whnf) <;> repeat ((first | refine atE rfl ?_ | refine andR ?_ ?_); (conv => whnf)))
local macro_rules | `(tactic| walk_at "wh") => `(tactic| conv => whnf)
local macro_rules | `(tactic| walk_at "len") => `(tactic| (intro os Q h; (repeat (obtain ⟨_, h⟩ := h)); subst_vars; rfl))
local macro_rules | `(tactic| walk_at "keep") => `(tactic| (intro os Q h; (repeat (obtain ⟨_, h⟩ := h)); subst_vars; simp [keepOk]))
local macro_rules | `(tactic| walk_at "mono") => `(tactic| (intro os k k' f; repeat (first | exact f _ _ | refine Exists.imp fun _ => ?_ | refine And.imp_right ?_ | refine forall_imp fun _ => ?_)))
/-! readings along ways -/
open Fl (Net)
def hv (n : Int) : Rat := Rat.divInt n 2
def hD (n : Int) : D := qD (hv n)
def Rds := List (Option Int)
def rdD : Option Int → D
  | none => .none
  | some n => hD n
def readsD (R : List (Option Int)) : D := .tuple (R.map rdD)
def rd (R : List (Option Int)) (k : Nat) : Int := match R[k]? with
  | some (some n) => n
  | _ => 0
def est (R : List (Option Int)) (W : List (Nat × Int)) : Int := (W.map fun s => s.2 * rd R s.1).sum
def estD (R : List (Option Int)) (Ws : List (List (Nat × Int))) : D := .tuple ((Ws.map (est R)).map hD)
def Read (R : List (Option Int)) (Ws : List (List (Nat × Int))) : Prop := ∀ W ∈ Ws, W.length ≤ 60 ∧ ∀ s ∈ W, (s.2 = 1 ∨ s.2 = -1) ∧ ∃ n : Int, R[s.1]? = some (some n) ∧ n.natAbs ≤ 1000
def sp_quotient_of : FSp := fun os Q => ∃ a b : Int, os = [.d (.int a), .d (.int b)] ∧ b ≠ 0 ∧ b.natAbs < 2 ^ 9000 ∧ Q (.d (qD (Rat.divInt a b))) os
def sp_plus_of : FSp := fun os Q => ∃ (r s : Rat) (k l : Nat), os = [.d (qD r), .d (qD s)] ∧ Fit k r ∧ Fit l s ∧ k + l ≤ 9000 ∧ Q (.d (qD (r + s))) os
def sp_is_below : FSp := fun os Q => ∃ (r s : Rat) (k : Nat), os = [.d (qD r), .d (qD s)] ∧ Fit k r ∧ Fit k s ∧ k ≤ 9000 ∧ Q (.d (.bool (decide (r.num * s.den < s.num * r.den)))) os
def sp_scaled_by : FSp := fun os Q => ∃ (n : Int) (r : Rat) (k : Nat), os = [.d (.int n), .d (qD r)] ∧ Fit k r ∧ n.natAbs < 2 ^ 9000 ∧ k < 9000 ∧ Q (.d (qD ((n : Rat) * r))) os
def sp_added : FSp := fun os Q => ∃ ns : List Int, os = [.d (.list (ns.map hD))] ∧ ns.length ≤ 60 ∧ (∀ n ∈ ns, n.natAbs ≤ 1000) ∧ Q (.d (hD ns.sum)) os
def sp_most_often : FSp := fun os Q => ∃ (xs : List Int) (x : Int), os = [.d (.tuple (xs.map hD))] ∧ xs.length ≤ 100 ∧ (∀ n ∈ xs, n.natAbs ≤ 60000) ∧ xs.length < 2 * xs.count x ∧ Q (.d (.tuple [hD x, .int (xs.count x : Nat)])) os
def sp_way_estimates : FSp := fun os Q => ∃ (R : List (Option Int)) (Ws : List (List (Nat × Int))), os = [.d (readsD R), .d (.tuple (Ws.map wayD))] ∧ Ws.length ≤ 100 ∧ Read R Ws ∧ Q (.d (estD R Ws)) os
def sp_way_vote : FSp := fun os Q => ∃ (R : List (Option Int)) (Ws : List (List (Nat × Int))) (x : Int), os = [.d (readsD R), .d (.tuple (Ws.map wayD))] ∧ Ws.length ≤ 100 ∧ Read R Ws ∧ Ws.length < 2 * (Ws.map (est R)).count x ∧ Q (.d (.tuple [hD x, .int ((Ws.map (est R)).count x : Nat)])) os
def sp_law_quotient : FSp := fun os Q => ∃ a b : Int, os = [.d (.int a), .d (.int b)] ∧ 0 < b ∧ b.natAbs < 2 ^ 9000 ∧ Q (.d (qD (Rat.divInt a b))) os
def sp_law_plus : FSp := fun os Q => ∃ (r s : Rat) (d : Int) (k l : Nat), os = [.d (qD r), .d (qD s), .d (.int d)] ∧ Fit k r ∧ Fit l s ∧ k + l ≤ 8000 ∧ (d = 1 ∨ d = -1) ∧ Q (.d (qD (r + (d : Rat) * s))) os
def sp_law_estimates : FSp := fun os Q => ∃ (R : List (Option Int)) (Ws : List (List (Nat × Int))), os = [.d (readsD R), .d (.tuple (Ws.map wayD))] ∧ Ws.length ≤ 100 ∧ Read R Ws ∧ Q (.d (estD R Ws)) os
/-! ### quotient_of -/
abbrev s_quotient_of : Stmt := topS 19
abbrev n_quotient_of : List Str := ["number", "other", "common"]
theorem sc_quotient_of : FnScope n_quotient_of ["number", "other"] (defScope s_quotient_of) := ⟨rfl, rfl, rfl, by decide +kernel, rfl, by decide +kernel, by decide +kernel⟩
def r_quotient_of : RS := (rSeq (rSet 2 (rCB fGcd (rACons (rN 0) (rACons (rN 1) rANil))))
  (rSeq (rIfS (rCmp bLt (rN 1) (rP (rC (.int 0)))) (rSet 2 (rO (rNeg (rVar 2)))) rNext)
  (rRet (rO (rTup (rCons (rD (rOp bFdiv (rN 0) (rN 2))) (rCons (rD (rOp bFdiv (rN 1) (rN 2))) rNil)))))))
theorem q_quotient_of {P : Program} {w : World} {K : Fg} {mg : Str → Option Value} {base : Heap} {f : Addr} (g : Gs K mg) (cdv : Value) (A : Around) (outer : List PySem.Env) (s : Shared) (H : Hp) (E : XK) (hr : Room 0 (A.deeper (envOfC "quotient_of" (defScope s_quotient_of) s.heap.objs.size f cdv))) :
    QSs (cxOf CX0 P w K mg base n_quotient_of "quotient_of" (defScope s_quotient_of) f cdv A outer s H E).nox [] (defBody s_quotient_of) r_quotient_of :=
  (qss_cons (qs_set 2 sc_quotient_of.nd (qe_gcd g.gcd (qa_cons (qp_var 0) (qa_cons (qp_var 1) qa_nil))))
  (qss_cons (qs_if (qt_lt (qp_var 1) (qv_int).p) (qss_one (qs_set 2 sc_quotient_of.nd (QV.o (qv_neg (qv_var 2))))) qss_nil)
  (qss_one (qs_ret (QV.o (qv_tup (ql_cons (QE.v (qe_fdiv (qp_var 0) (qp_var 2))) (ql_cons (QE.v (qe_fdiv (qp_var 1) (qp_var 2))) ql_nil))))))))

/-! ### plus_of -/
abbrev s_plus_of : Stmt := topS 21
abbrev n_plus_of : List Str := ["one", "other"]
theorem sc_plus_of : FnScope n_plus_of ["one", "other"] (defScope s_plus_of) := ⟨rfl, rfl, rfl, by decide +kernel, rfl, by decide +kernel, by decide +kernel⟩
def r_plus_of : RS := (rRet (rCall sp_quotient_of (rACons (rP (rD (rOp dAdd (rP (rD (rOp dMul (rP (rD (rOp dIx (rN 0) (rP (rC (.int 0)))))) (rP (rD (rOp dIx (rN 1) (rP (rC (.int 1))))))))) (rP (rD (rOp dMul (rP (rD (rOp dIx (rN 1) (rP (rC (.int 0)))))) (rP (rD (rOp dIx (rN 0) (rP (rC (.int 1)))))))))))) (rACons (rP (rD (rOp dMul (rP (rD (rOp dIx (rN 0) (rP (rC (.int 1)))))) (rP (rD (rOp dIx (rN 1) (rP (rC (.int 1))))))))) rANil))))
theorem q_plus_of {P : Program} {w : World} {K : Fg} {mg : Str → Option Value} {base : Heap} {f : Addr} (g : Gs K mg) (h_quotient_of : Has P w K mg base "quotient_of" ["number", "other"] 1 sp_quotient_of) (cdv : Value) (A : Around) (outer : List PySem.Env) (s : Shared) (H : Hp) (E : XK) (hr : Room 1 (A.deeper (envOfC "plus_of" (defScope s_plus_of) s.heap.objs.size f cdv))) :
    QSs (cxOf CX0 P w K mg base n_plus_of "plus_of" (defScope s_plus_of) f cdv A outer s H E).nox [] (defBody s_plus_of) r_plus_of :=
  (qss_one (qs_ret (qe_call h_quotient_of (hr.mono (by decide)) (qa_cons ((QE.v (qe_add ((QE.v (qe_mul ((qv_ix (qp_var 0) (qv_int).p)).p ((qv_ix (qp_var 1) (qv_int).p)).p))).p ((QE.v (qe_mul ((qv_ix (qp_var 1) (qv_int).p)).p ((qv_ix (qp_var 0) (qv_int).p)).p))).p))).p (qa_cons ((QE.v (qe_mul ((qv_ix (qp_var 0) (qv_int).p)).p ((qv_ix (qp_var 1) (qv_int).p)).p))).p qa_nil)))))

/-! ### is_below -/
abbrev s_is_below : Stmt := topS 22
abbrev n_is_below : List Str := ["one", "other"]
theorem sc_is_below : FnScope n_is_below ["one", "other"] (defScope s_is_below) := ⟨rfl, rfl, rfl, by decide +kernel, rfl, by decide +kernel, by decide +kernel⟩
def r_is_below : RS := (rRet (rO (rTV (rCmp bLt (rP (rD (rOp dMul (rP (rD (rOp dIx (rN 0) (rP (rC (.int 0)))))) (rP (rD (rOp dIx (rN 1) (rP (rC (.int 1))))))))) (rP (rD (rOp dMul (rP (rD (rOp dIx (rN 1) (rP (rC (.int 0)))))) (rP (rD (rOp dIx (rN 0) (rP (rC (.int 1)))))))))))))
theorem q_is_below {P : Program} {w : World} {K : Fg} {mg : Str → Option Value} {base : Heap} {f : Addr} (g : Gs K mg) (cdv : Value) (A : Around) (outer : List PySem.Env) (s : Shared) (H : Hp) (E : XK) (hr : Room 0 (A.deeper (envOfC "is_below" (defScope s_is_below) s.heap.objs.size f cdv))) :
    QSs (cxOf CX0 P w K mg base n_is_below "is_below" (defScope s_is_below) f cdv A outer s H E).nox [] (defBody s_is_below) r_is_below :=
  (qss_one (qs_ret (QV.o (qv_lt ((QE.v (qe_mul ((qv_ix (qp_var 0) (qv_int).p)).p ((qv_ix (qp_var 1) (qv_int).p)).p))).p ((QE.v (qe_mul ((qv_ix (qp_var 1) (qv_int).p)).p ((qv_ix (qp_var 0) (qv_int).p)).p))).p))))

/-! ### scaled_by -/
abbrev s_scaled_by : Stmt := topS 23
abbrev n_scaled_by : List Str := ["number", "one"]
theorem sc_scaled_by : FnScope n_scaled_by ["number", "one"] (defScope s_scaled_by) := ⟨rfl, rfl, rfl, by decide +kernel, rfl, by decide +kernel, by decide +kernel⟩
def r_scaled_by : RS := (rRet (rCall sp_quotient_of (rACons (rP (rD (rOp dMul (rN 0) (rP (rD (rOp dIx (rN 1) (rP (rC (.int 0))))))))) (rACons (rP (rD (rOp dIx (rN 1) (rP (rC (.int 1)))))) rANil))))
theorem q_scaled_by {P : Program} {w : World} {K : Fg} {mg : Str → Option Value} {base : Heap} {f : Addr} (g : Gs K mg) (h_quotient_of : Has P w K mg base "quotient_of" ["number", "other"] 1 sp_quotient_of) (cdv : Value) (A : Around) (outer : List PySem.Env) (s : Shared) (H : Hp) (E : XK) (hr : Room 1 (A.deeper (envOfC "scaled_by" (defScope s_scaled_by) s.heap.objs.size f cdv))) :
    QSs (cxOf CX0 P w K mg base n_scaled_by "scaled_by" (defScope s_scaled_by) f cdv A outer s H E).nox [] (defBody s_scaled_by) r_scaled_by :=
  (qss_one (qs_ret (qe_call h_quotient_of (hr.mono (by decide)) (qa_cons ((QE.v (qe_mul (qp_var 0) ((qv_ix (qp_var 1) (qv_int).p)).p))).p (qa_cons ((qv_ix (qp_var 1) (qv_int).p)).p qa_nil)))))

/-! ### added -/
abbrev s_added : Stmt := topS 24
abbrev n_added : List Str := ["row", "total", "one"]
theorem sc_added : FnScope n_added ["row"] (defScope s_added) := ⟨rfl, rfl, rfl, by decide +kernel, rfl, by decide +kernel, by decide +kernel⟩
def r_added : RS := (rSeq (rSet 1 (rO (rC d_ZERO)))
  (rSeq (rFor (rFs (rVar 0)) (rGn 2) (rSet 1 (rCall sp_plus_of (rACons (rN 1) (rACons (rN 2) rANil)))))
  (rRet (rO (rVar 1)))))
theorem q_added {P : Program} {w : World} {K : Fg} {mg : Str → Option Value} {base : Heap} {f : Addr} (g : Gs K mg) (h_plus_of : Has P w K mg base "plus_of" ["one", "other"] 2 sp_plus_of) (cdv : Value) (A : Around) (outer : List PySem.Env) (s : Shared) (H : Hp) (E : XK) (hr : Room 2 (A.deeper (envOfC "added" (defScope s_added) s.heap.objs.size f cdv))) :
    QSs (cxOf CX0 P w K mg base n_added "added" (defScope s_added) f cdv A outer s H E).nox [] (defBody s_added) r_added :=
  (qss_cons (qs_set 1 sc_added.nd (QV.o (g.ZERO)))
  (qss_cons (qs_for PassesOwn.never rfl (qf_seq (qv_var 0)) (qg_name 2 sc_added.nd) (qss_one (qs_set 1 sc_added.nd (qe_call h_plus_of (hr.mono (by decide)) (qa_cons (qp_var 1) (qa_cons (qp_var 2) qa_nil))))))
  (qss_one (qs_ret (QV.o (qv_var 1))))))

/-! ### most_often -/
abbrev s_most_often : Stmt := topS 26
abbrev n_most_often : List Str := ["worths", "best", "worth", "times", "other"]
theorem sc_most_often : FnScope n_most_often ["worths"] (defScope s_most_often) := ⟨rfl, rfl, rfl, by decide +kernel, rfl, by decide +kernel, by decide +kernel⟩
def r_most_often : RS := (rSeq (rSet 1 (rO (rC .none)))
  (rSeq (rFor (rFs (rVar 0)) (rGn 2) (rSeq (rSet 3 (rCB fLen (rACons (rP (rD (rLc (rFs (rVar 0)) (rGn 4) (rCmp (dEq false) (rN 4) (rN 2)) (rVar 4) [4]))) rANil)))
  (rIfS (rOr (rCmp (dIsN false) (rN 1) (rP (rC .none))) (rOr (rCmp bGt (rN 3) (rP (rD (rOp dIx (rN 1) (rP (rC (.int 1))))))) (rAnd (rCmp (dEq false) (rN 3) (rP (rD (rOp dIx (rN 1) (rP (rC (.int 1))))))) (rTb (rD (rCall sp_is_below (rACons (rN 2) (rACons (rP (rD (rOp dIx (rN 1) (rP (rC (.int 0)))))) rANil)))))))) (rSet 1 (rO (rTup (rCons (rVar 2) (rCons (rVar 3) rNil))))) rNext)))
  (rRet (rO (rVar 1)))))
theorem q_most_often {P : Program} {w : World} {K : Fg} {mg : Str → Option Value} {base : Heap} {f : Addr} (g : Gs K mg) (h_is_below : Has P w K mg base "is_below" ["one", "other"] 1 sp_is_below) (cdv : Value) (A : Around) (outer : List PySem.Env) (s : Shared) (H : Hp) (E : XK) (hr : Room 1 (A.deeper (envOfC "most_often" (defScope s_most_often) s.heap.objs.size f cdv))) :
    QSs (cxOf CX0 P w K mg base n_most_often "most_often" (defScope s_most_often) f cdv A outer s H E).nox [] (defBody s_most_often) r_most_often :=
  (qss_cons (qs_set 1 sc_most_often.nd (QV.o qv_non))
  (qss_cons (qs_for PassesOwn.never rfl (qf_seq (qv_var 0)) (qg_name 2 sc_most_often.nd) (qss_cons (qs_set 3 sc_most_often.nd (qe_len g.len (qa_cons ((QE.v (qe_lc (own := [("other", 4)]) rfl sc_most_often.nd (qf_seq (qv_var 0)) (blkOk_by (by rfl)) (fun _ _ _ _ _ => (qg_name 4 sc_most_often.nd)) (fun _ _ _ _ _ => (qts_one (qt_eq hr.units (qp_var 4) (qp_var 2)))) (fun _ _ _ _ _ => (qv_var 4))))).p qa_nil)))
  (qss_one (qs_if (QW.t (qw_or (qt_isN (qp_var 1) (qv_non).p) (qw_or (qt_gt (qp_var 3) ((qv_ix (qp_var 1) (qv_int).p)).p) (qw_or1 (QW.t (qw_and (qt_eq hr.units (qp_var 3) ((qv_ix (qp_var 1) (qv_int).p)).p) (qw_and1 (qt_call (QE.v (qe_call h_is_below (hr.mono (by decide)) (qa_cons (qp_var 2) (qa_cons ((qv_ix (qp_var 1) (qv_int).p)).p qa_nil)))))))))))) (qss_one (qs_set 1 sc_most_often.nd (QV.o (qv_tup (ql_cons (qv_var 2) (ql_cons (qv_var 3) ql_nil)))))) qss_nil))))
  (qss_one (qs_ret (QV.o (qv_var 1))))))

/-! ### way_estimates -/
abbrev s_way_estimates : Stmt := topS 28
abbrev n_way_estimates : List Str := ["readings", "ways", "number", "step", "way"]
theorem sc_way_estimates : FnScope n_way_estimates ["readings", "ways"] (defScope s_way_estimates) := ⟨rfl, rfl, rfl, by decide +kernel, rfl, by decide +kernel, by decide +kernel⟩
def r_way_estimates : RS := (rRet (rCB fTuple (rACons (rP (rD (rLc (rFs (rVar 1)) (rGn 4) rYes (rD (rCall sp_added (rACons (rP (rD (rLc (rFs (rVar 4)) (rGt 2 (rGcons (rGn 2) (rGcons (rGn 3) rGnil))) rYes (rD (rCall sp_scaled_by (rACons (rN 3) (rACons (rP (rD (rOp dIx (rN 0) (rN 2)))) rANil)))) [2, 3]))) rANil))) [4]))) rANil)))
theorem q_way_estimates {P : Program} {w : World} {K : Fg} {mg : Str → Option Value} {base : Heap} {f : Addr} (g : Gs K mg) (h_scaled_by : Has P w K mg base "scaled_by" ["number", "one"] 2 sp_scaled_by) (h_added : Has P w K mg base "added" ["row"] 3 sp_added) (cdv : Value) (A : Around) (outer : List PySem.Env) (s : Shared) (H : Hp) (E : XK) (hr : Room 3 (A.deeper (envOfC "way_estimates" (defScope s_way_estimates) s.heap.objs.size f cdv))) :
    QSs (cxOf CX0 P w K mg base n_way_estimates "way_estimates" (defScope s_way_estimates) f cdv A outer s H E).nox [] (defBody s_way_estimates) r_way_estimates :=
  (qss_one (qs_ret (qe_tuple g.tuple (qa_cons ((QE.v (qe_lc (own := [("way", 4)]) rfl sc_way_estimates.nd (qf_seq (qv_var 1)) (blkOk_by (by rfl)) (fun _ _ _ _ _ => (qg_name 4 sc_way_estimates.nd)) (fun _ _ _ _ _ => qts_nil) (fun _ _ _ _ _ => (QE.v (qe_call h_added (hr.mono (by decide)) (qa_cons ((QE.v (qe_lc (own := [("number", 2), ("step", 3)]) rfl sc_way_estimates.nd (qf_seq (qv_var 4)) (blkOk_by (by rfl)) (fun _ _ _ _ _ => (qg_tup 2 rfl (qgs_cons (qg_name 2 sc_way_estimates.nd) (qgs_cons (qg_name 3 sc_way_estimates.nd) qgs_nil)))) (fun _ _ _ _ _ => qts_nil) (fun _ _ _ _ _ => (QE.v (qe_call h_scaled_by (hr.mono (by decide)) (qa_cons (qp_var 3) (qa_cons ((qv_ix (qp_var 0) (qp_var 2))).p qa_nil)))))))).p qa_nil))))))).p qa_nil))))

/-! ### way_vote -/
abbrev s_way_vote : Stmt := topS 29
abbrev n_way_vote : List Str := ["readings", "ways"]
theorem sc_way_vote : FnScope n_way_vote ["readings", "ways"] (defScope s_way_vote) := ⟨rfl, rfl, rfl, by decide +kernel, rfl, by decide +kernel, by decide +kernel⟩
def r_way_vote : RS := (rRet (rCall sp_most_often (rACons (rP (rD (rCall sp_way_estimates (rACons (rN 0) (rACons (rN 1) rANil))))) rANil)))
theorem q_way_vote {P : Program} {w : World} {K : Fg} {mg : Str → Option Value} {base : Heap} {f : Addr} (g : Gs K mg) (h_most_often : Has P w K mg base "most_often" ["worths"] 2 sp_most_often) (h_way_estimates : Has P w K mg base "way_estimates" ["readings", "ways"] 4 sp_way_estimates) (cdv : Value) (A : Around) (outer : List PySem.Env) (s : Shared) (H : Hp) (E : XK) (hr : Room 4 (A.deeper (envOfC "way_vote" (defScope s_way_vote) s.heap.objs.size f cdv))) :
    QSs (cxOf CX0 P w K mg base n_way_vote "way_vote" (defScope s_way_vote) f cdv A outer s H E).nox [] (defBody s_way_vote) r_way_vote :=
  (qss_one (qs_ret (qe_call h_most_often (hr.mono (by decide)) (qa_cons ((QE.v (qe_call h_way_estimates (hr.mono (by decide)) (qa_cons (qp_var 0) (qa_cons (qp_var 1) qa_nil))))).p qa_nil))))

/-! ### _law_quotient -/
abbrev s_law_quotient : Stmt := topS 40
abbrev n_law_quotient : List Str := ["number", "other", "one", "two"]
theorem sc_law_quotient : FnScope n_law_quotient ["number", "other"] (defScope s_law_quotient) := ⟨rfl, rfl, rfl, by decide +kernel, rfl, by decide +kernel, by decide +kernel⟩
def r_law_quotient : RS := (rSeq (rSet 2 (rCB fAbs (rACons (rN 0) rANil)))
  (rSeq (rSet 3 (rO (rVar 1)))
  (rSeq (rWhile (rCmp bGt (rN 3) (rP (rC (.int 0)))) (rPar 2 3 (rVar 3) (rD (rOp bMod (rP (rD (rCB fInt (rACons (rN 2) rANil)))) (rN 3)))))
  (rRet (rO (rTup (rCons (rD (rOp bFdiv (rN 0) (rN 2))) (rCons (rD (rOp bFdiv (rN 1) (rN 2))) rNil))))))))
theorem q_law_quotient {P : Program} {w : World} {K : Fg} {mg : Str → Option Value} {base : Heap} {f : Addr} (g : Gs K mg) (cdv : Value) (A : Around) (outer : List PySem.Env) (s : Shared) (H : Hp) (E : XK) (hr : Room 0 (A.deeper (envOfC "_law_quotient" (defScope s_law_quotient) s.heap.objs.size f cdv))) :
    QSs (cxOf CX0 P w K mg base n_law_quotient "_law_quotient" (defScope s_law_quotient) f cdv A outer s H E).nox [] (defBody s_law_quotient) r_law_quotient :=
  (qss_cons (qs_set 2 sc_law_quotient.nd (qe_abs g.abs (qa_cons (qp_var 0) qa_nil)))
  (qss_cons (qs_set 3 sc_law_quotient.nd (QV.o (qv_var 1)))
  (qss_cons (qs_while PassesOwn.never (qt_gt (qp_var 3) (qv_int).p) (qss_one (qs_par 2 3 rfl sc_law_quotient.nd (qv_var 3) (QE.v (qe_mod ((QE.v (qe_int g.int (qa_cons (qp_var 2) qa_nil)))).p (qp_var 3))))))
  (qss_one (qs_ret (QV.o (qv_tup (ql_cons (QE.v (qe_fdiv (qp_var 0) (qp_var 2))) (ql_cons (QE.v (qe_fdiv (qp_var 1) (qp_var 2))) ql_nil)))))))))

/-! ### _law_plus -/
abbrev s_law_plus : Stmt := topS 41
abbrev n_law_plus : List Str := ["one", "other", "sign"]
theorem sc_law_plus : FnScope n_law_plus ["one", "other", "sign"] (defScope s_law_plus) := ⟨rfl, rfl, rfl, by decide +kernel, rfl, by decide +kernel, by decide +kernel⟩
def r_law_plus : RS := (rRet (rCall sp_law_quotient (rACons (rP (rD (rOp dAdd (rP (rD (rOp dMul (rP (rD (rOp dIx (rN 0) (rP (rC (.int 0)))))) (rP (rD (rOp dIx (rN 1) (rP (rC (.int 1))))))))) (rP (rD (rOp dMul (rP (rD (rOp dMul (rN 2) (rP (rD (rOp dIx (rN 1) (rP (rC (.int 0))))))))) (rP (rD (rOp dIx (rN 0) (rP (rC (.int 1)))))))))))) (rACons (rP (rD (rOp dMul (rP (rD (rOp dIx (rN 0) (rP (rC (.int 1)))))) (rP (rD (rOp dIx (rN 1) (rP (rC (.int 1))))))))) rANil))))
theorem q_law_plus {P : Program} {w : World} {K : Fg} {mg : Str → Option Value} {base : Heap} {f : Addr} (g : Gs K mg) (h_law_quotient : Has P w K mg base "_law_quotient" ["number", "other"] 1 sp_law_quotient) (cdv : Value) (A : Around) (outer : List PySem.Env) (s : Shared) (H : Hp) (E : XK) (hr : Room 1 (A.deeper (envOfC "_law_plus" (defScope s_law_plus) s.heap.objs.size f cdv))) :
    QSs (cxOf CX0 P w K mg base n_law_plus "_law_plus" (defScope s_law_plus) f cdv A outer s H E).nox [] (defBody s_law_plus) r_law_plus :=
  (qss_one (qs_ret (qe_call h_law_quotient (hr.mono (by decide)) (qa_cons ((QE.v (qe_add ((QE.v (qe_mul ((qv_ix (qp_var 0) (qv_int).p)).p ((qv_ix (qp_var 1) (qv_int).p)).p))).p ((QE.v (qe_mul ((QE.v (qe_mul (qp_var 2) ((qv_ix (qp_var 1) (qv_int).p)).p))).p ((qv_ix (qp_var 0) (qv_int).p)).p))).p))).p (qa_cons ((QE.v (qe_mul ((qv_ix (qp_var 0) (qv_int).p)).p ((qv_ix (qp_var 1) (qv_int).p)).p))).p qa_nil)))))

/-! ### _law_estimates -/
abbrev s_law_estimates : Stmt := topS 50
abbrev n_law_estimates : List Str := ["readings", "ways", "told", "way", "total", "line", "sign"]
theorem sc_law_estimates : FnScope n_law_estimates ["readings", "ways"] (defScope s_law_estimates) := ⟨rfl, rfl, rfl, by decide +kernel, rfl, by decide +kernel, by decide +kernel⟩
def r_law_estimates : RS := (rSeq (rSet 2 (rLst rNil))
  (rSeq (rFor (rFs (rVar 1)) (rGn 3) (rSeq (rSet 4 (rO (rTup (rCons (rC (.int 0)) (rCons (rC (.int 1)) rNil)))))
  (rSeq (rFor (rFs (rVar 3)) (rGt 2 (rGcons (rGn 5) (rGcons (rGn 6) rGnil))) (rSet 4 (rCall sp_law_plus (rACons (rN 4) (rACons (rP (rD (rOp dIx (rN 0) (rN 5)))) (rACons (rN 6) rANil))))))
  (rDrop (rApp 2 (rVar 4))))))
  (rRet (rCB fTuple (rACons (rN 2) rANil)))))
theorem q_law_estimates {P : Program} {w : World} {K : Fg} {mg : Str → Option Value} {base : Heap} {f : Addr} (g : Gs K mg) (h_law_plus : Has P w K mg base "_law_plus" ["one", "other", "sign"] 2 sp_law_plus) (cdv : Value) (A : Around) (outer : List PySem.Env) (s : Shared) (H : Hp) (E : XK) (hr : Room 2 (A.deeper (envOfC "_law_estimates" (defScope s_law_estimates) s.heap.objs.size f cdv))) :
    QSs (cxOf CX0 P w K mg base n_law_estimates "_law_estimates" (defScope s_law_estimates) f cdv A outer s H E).nox [] (defBody s_law_estimates) r_law_estimates :=
  (qss_cons (qs_set 2 sc_law_estimates.nd (qe_lst ql_nil))
  (qss_cons (qs_for PassesOwn.never rfl (qf_seq (qv_var 1)) (qg_name 3 sc_law_estimates.nd) (qss_cons (qs_set 4 sc_law_estimates.nd (QV.o (qv_tup (ql_cons qv_int (ql_cons qv_int ql_nil)))))
  (qss_cons (qs_for PassesOwn.never rfl (qf_seq (qv_var 3)) (qg_tup 2 rfl (qgs_cons (qg_name 5 sc_law_estimates.nd) (qgs_cons (qg_name 6 sc_law_estimates.nd) qgs_nil))) (qss_one (qs_set 4 sc_law_estimates.nd (qe_call h_law_plus (hr.mono (by decide)) (qa_cons (qp_var 4) (qa_cons ((qv_ix (qp_var 0) (qp_var 5))).p (qa_cons (qp_var 6) qa_nil)))))))
  (qss_one (qs_expr (qe_append 2 (qv_var 4)))))))
  (qss_one (qs_ret (qe_tuple g.tuple (qa_cons (qp_var 2) qa_nil))))))

theorem m_quotient_of (os : List O) (Q : O → List O → Prop) (h : sp_quotient_of os Q) : Ends r_quotient_of n_quotient_of os Q := by
  obtain ⟨a, b, rfl, hb, hl, q⟩ := h
  have ok := gcd_ok a b hb hl
  rw [qD_divInt a b hb] at q
  walk_at "go"
  · refine decI (fun h => ?_) (fun h => ?_)
    · rw [if_pos (of_decide_eq_true h)] at q ok
      walk_at "go"
      · exact q
      · exact (by decide : 2 ≤ sizeLine)
      · exact ok
      · exact ok
    · rw [if_neg (fun z => h (decide_eq_true z))] at q ok
      walk_at "go"
      · exact q
      · exact (by decide : 2 ≤ sizeLine)
      · exact ok
      · exact ok
  · trivial
theorem m_plus_of (os : List O) (Q : O → List O → Prop) (h : sp_plus_of os Q) : Ends r_plus_of n_plus_of os Q := by
  obtain ⟨r, s, k, l, rfl, hr, hs, hk, q⟩ := h
  walk_at "go"
  · exact ⟨_, _, rfl, den_ne r s, den_mul_lt hr.2 hs.2 hk, by rw [add_as]; exact q⟩
  · exact mul_fit hr.2 hs.2 (by omega) (by omega)
  · exact mul_fit hs.1 hr.2 (by omega) (by omega)
  · exact mul_fit hr.1 hs.2 (by omega) (by omega)
theorem m_scaled_by (os : List O) (Q : O → List O → Prop) (h : sp_scaled_by os Q) : Ends r_scaled_by n_scaled_by os Q := by
  obtain ⟨n, r, k, rfl, hr, hn, hk, q⟩ := h
  walk_at "go"
  · refine ⟨_, _, rfl, den0 r, ?_, by rw [int_as]; exact q⟩
    exact Nat.lt_of_lt_of_le hr.2 (Nat.pow_le_pow_right (by decide) (by omega))
  · exact mul_fit hn hr.1 (by omega) (by omega)
theorem fm_lt (a b : Int) (h : b ≠ 0) : (a.fmod b).natAbs < b.natAbs := by
  by_cases hb : 0 < b
  · have h1 := Int.fmod_lt_of_pos a hb
    have h2 := Int.fmod_nonneg_of_pos a hb
    omega
  · have hb2 : 0 < -b := by omega
    have h1 := Int.fmod_lt_of_pos (-a) hb2
    have h2 := Int.fmod_nonneg_of_pos (-a) hb2
    rw [Int.neg_fmod_neg] at h1 h2
    omega
theorem gcd_step (a b : Int) : Nat.gcd b.natAbs (a.fmod b).natAbs = Nat.gcd a.natAbs b.natAbs := by
  have e := Int.fmod_def a b
  have d1 : ∀ c : Int, c ∣ b → (c ∣ a.fmod b ↔ c ∣ a) := fun c hc => by
    rw [e]
    exact ⟨fun h => by
      have := Int.dvd_add h (Int.dvd_trans hc (Int.dvd_mul_right b (a.fdiv b)))
      rwa [Int.sub_add_cancel] at this, fun h => Int.dvd_sub h (Int.dvd_trans hc (Int.dvd_mul_right b (a.fdiv b)))⟩
  refine Nat.dvd_antisymm ?_ ?_
  · refine Nat.dvd_gcd ?_ (Nat.gcd_dvd_left _ _)
    have h1 : ((Nat.gcd b.natAbs (a.fmod b).natAbs : Nat) : Int) ∣ b := Int.ofNat_dvd_left.mpr (Nat.gcd_dvd_left _ _)
    exact Int.ofNat_dvd_left.mp ((d1 _ h1).mp (Int.ofNat_dvd_left.mpr (Nat.gcd_dvd_right _ _)))
  · refine Nat.dvd_gcd (Nat.gcd_dvd_right _ _) ?_
    have h1 : ((Nat.gcd a.natAbs b.natAbs : Nat) : Int) ∣ b := Int.ofNat_dvd_left.mpr (Nat.gcd_dvd_right _ _)
    exact Int.ofNat_dvd_left.mp ((d1 _ h1).mpr (Int.ofNat_dvd_left.mpr (Nat.gcd_dvd_left _ _)))
theorem hv_eq (n : Int) : hv n = (n : Rat) / 2 := by
  unfold hv
  rw [Rat.divInt_eq_div]
  rfl
theorem hv_step (a d b : Int) : hv a + (d : Rat) * hv b = hv (a + d * b) := by
  rw [hv_eq, hv_eq, hv_eq, Rat.intCast_add, Rat.intCast_mul]
  grind
theorem hv_add (a b : Int) : hv a + hv b = hv (a + b) := by
  rw [hv_eq, hv_eq, hv_eq, Rat.intCast_add]
  grind
theorem hv_mul (d b : Int) : (d : Rat) * hv b = hv (d * b) := by
  rw [hv_eq, hv_eq, Rat.intCast_mul]
  grind
theorem hv_inj {a b : Int} (h : hv a = hv b) : a = b := by
  rw [hv_eq, hv_eq] at h
  have : (a : Rat) = (b : Rat) := by grind
  exact_mod_cast this
theorem hv_fit {n : Int} (h : n.natAbs < 2 ^ 20) : Fit 20 (hv n) := fit_divInt (by decide) h (by decide)
theorem hD_zero : hD 0 = d_ZERO := by
  unfold hD hv
  rw [Rat.zero_divInt]
  rfl
theorem eqv_hD (a b : Int) : PyData.eqv (hD a) (hD b) = decide (a = b) := by
  unfold hD
  rw [eqv_qD]
  by_cases h : a = b
  · subst h; simp
  · rw [decide_eq_false h, decide_eq_false fun z => h (hv_inj z)]
theorem sum_bound {ns : List Int} {B : Nat} (h : ∀ n ∈ ns, n.natAbs ≤ B) : ns.sum.natAbs ≤ ns.length * B := by
  induction ns with
  | nil => simp
  | cons n ns ih =>
    have h1 := h n List.mem_cons_self
    have h2 := ih fun m hm => h m (List.mem_cons_of_mem _ hm)
    rw [List.sum_cons, List.length_cons, Nat.add_mul]
    omega
theorem sum_take {ns : List Int} {B i : Nat} (hl : ns.length ≤ 60) (h : ∀ n ∈ ns, n.natAbs ≤ B) : (ns.take i).sum.natAbs ≤ 60 * B := by
  have h1 := sum_bound (ns := ns.take i) fun n hn => h n (List.mem_of_mem_take hn)
  have h2 : (ns.take i).length ≤ 60 := by rw [List.length_take]; omega
  exact Nat.le_trans h1 (Nat.mul_le_mul_right _ h2)
theorem sum_next {ns : List Int} {i : Nat} {n : Int} (h : ns[i]? = some n) : (ns.take (i + 1)).sum = (ns.take i).sum + n := by
  rw [List.take_add_one, h, List.sum_append]
  simp
theorem m_is_below (os : List O) (Q : O → List O → Prop) (h : sp_is_below os Q) : Ends r_is_below n_is_below os Q := by
  obtain ⟨r, s, k, rfl, hr, hs, hk, q⟩ := h
  walk_at "go"
  · exact q
  · exact mul_fit hs.1 hr.2 (by omega) (by omega)
  · exact mul_fit hr.1 hs.2 (by omega) (by omega)
theorem m_added (os : List O) (Q : O → List O → Prop) (h : sp_added os Q) : Ends r_added n_added os Q := by
  obtain ⟨ns, rfl, hl, hn, q⟩ := h
  walk_at "go"
  refine ⟨fun i e => ∃ o2, e = [some (.d (.list (ns.map hD))), some (.d (hD (ns.take i).sum)), o2], ⟨none, by rw [List.take_zero, show ([] : List Int).sum = 0 from rfl, hD_zero]; rfl⟩, ?_, ?_⟩
  · rintro i x e hx ⟨o2, rfl⟩
    obtain ⟨n, hi, rfl⟩ := get_map hx
    have h1 := sum_take (i := i) hl hn
    have h2 := hn n (List.mem_of_getElem? hi)
    walk_at "wh"
    refine ⟨hv (ns.take i).sum, hv n, 20, 20, rfl, hv_fit (by omega), hv_fit (by omega), by decide, ?_⟩
    walk_at "wh"
    rw [hv_add, ← sum_next hi]
    exact ⟨_, rfl⟩
  · rintro e ⟨o2, rfl⟩
    rw [List.length_map, List.take_length]
    walk_at "go"
    exact q
theorem m_law_quotient (os : List O) (Q : O → List O → Prop) (h : sp_law_quotient os Q) : Ends r_law_quotient n_law_quotient os Q := by
  obtain ⟨a, b, rfl, hb, hl, q⟩ := h
  have ok := gcd_ok a b (by omega) hl
  rw [qD_divInt a b (by omega)] at q
  rw [if_neg (by omega)] at q ok
  walk_at "go"
  · refine ⟨fun m e => ∃ c d : Int, e = [some (.d (.int a)), some (.d (.int b)), some (.d (.int c)), some (.d (.int d))] ∧ 0 ≤ c ∧ 0 ≤ d ∧ Nat.gcd c.natAbs d.natAbs = Nat.gcd a.natAbs b.natAbs ∧ m = d.natAbs, ⟨_, (if a < 0 then -a else a), b, rfl, by split <;> omega, by omega, by congr 1; split <;> omega, rfl⟩, ?_⟩
    rintro m e ⟨c, d, rfl, hc, hd, hg, rfl⟩
    walk_at "go"
    refine decI (fun h => ?_) (fun h => ?_)
    · have h : decide (0 < d) = true := h
      have h := of_decide_eq_true h
      walk_at "go"
      · have h1 := Int.fmod_nonneg_of_pos c h
        exact ⟨_, fm_lt c d (by omega), d, c.fmod d, rfl, hd, h1, by rw [gcd_step, hg], rfl⟩
      · show d ≠ 0
        omega
    · have h : ¬ decide (0 < d) = true := h
      have e0 : d = 0 := by simp at h; omega
      subst e0
      have e1 : c = ((Nat.gcd a.natAbs b.natAbs : Nat) : Int) := by
        rw [← hg]
        show c = ((Nat.gcd c.natAbs 0 : Nat) : Int)
        rw [Nat.gcd_zero_right]
        omega
      rw [← e1] at q ok
      walk_at "go"
      · exact q
      · exact (by decide : 2 ≤ sizeLine)
      · exact ok
      · exact ok
  · trivial
theorem m_law_plus (os : List O) (Q : O → List O → Prop) (h : sp_law_plus os Q) : Ends r_law_plus n_law_plus os Q := by
  obtain ⟨r, s, d, k, l, rfl, hr, hs, hk, hd, q⟩ := h
  have e1 : Rat.divInt (r.num * (s.den : Int) + d * s.num * (r.den : Int)) ((r.den : Int) * (s.den : Int)) = r + (d : Rat) * s := by
    rcases hd with rfl | rfl
    · rw [Int.one_mul, add_as, show ((1 : Int) : Rat) = 1 from rfl, Rat.one_mul]
    · rw [Int.neg_one_mul, Int.neg_mul, ← Int.sub_eq_add_neg, sub_as, show ((-1 : Int) : Rat) = -1 from rfl]
      grind
  have hdf : d.natAbs < 2 ^ 2 := by rcases hd with rfl | rfl <;> decide
  walk_at "go"
  · refine ⟨_, _, rfl, ?_, den_mul_lt hr.2 hs.2 (by omega), by rw [e1]; exact q⟩
    have h1 := r.den_pos
    have h2 := s.den_pos
    exact Int.mul_pos (by omega) (by omega)
  · exact mul_fit hr.2 hs.2 (by omega) (by omega)
  · refine mul_fit (k := 2 + l) (l := k) ?_ hr.2 (by omega) (by omega)
    rw [Int.natAbs_mul]
    exact mul_lt hdf hs.1
  · exact mul_fit hdf hs.1 (by omega) (by omega)
  · exact mul_fit hr.1 hs.2 (by omega) (by omega)
theorem count_filter (xs : List Int) (w : Int) : (((xs.map hD).filter fun y => PyData.eqv y (hD w)).map id).length = xs.count w := by
  rw [List.map_id]
  induction xs with
  | nil => rfl
  | cons y xs ih =>
    rw [List.map_cons, List.count_cons]
    by_cases h : y = w
    · subst h
      rw [List.filter_cons_of_pos (by rw [eqv_hD]; simp), List.length_cons, ih]
      simp
    · rw [List.filter_cons_of_neg (by rw [eqv_hD]; simpa using h), ih]
      have : (y == w) = false := by simpa using h
      rw [this]
      simp
theorem m_most_often (os : List O) (Q : O → List O → Prop) (h : sp_most_often os Q) : Ends r_most_often n_most_often os Q := by
  obtain ⟨xs, x, rfl, hl, hb, hm, q⟩ := h
  have two : ∀ y, y ≠ x → xs.count y + xs.count x ≤ xs.length := fun y hy => by
    clear hm hb hl q
    induction xs with
    | nil => simp
    | cons z xs ih =>
      rw [List.count_cons, List.count_cons, List.length_cons]
      by_cases h1 : z = y
      · subst h1
        have : (z == x) = false := by simpa using hy
        rw [this]
        simp
        omega
      · have : (z == y) = false := by simpa using h1
        rw [this]
        by_cases h2 : z = x
        · subst h2
          simp
          omega
        · have : (z == x) = false := by simpa using h2
          rw [this]
          simp
          omega
  walk_at "go"
  refine ⟨fun i e => ∃ bd o2 o3 o4, e = [some (.d (.tuple (xs.map hD))), some (.d bd), o2, o3, o4] ∧ ((bd = .none ∧ i = 0) ∨ ∃ y, bd = .tuple [hD y, .int (xs.count y : Nat)] ∧ y.natAbs ≤ 60000 ∧ (x ∈ xs.take i → y = x)), ⟨.none, none, none, none, rfl, .inl ⟨rfl, rfl⟩⟩, ?_, ?_⟩
  · rintro i v e hx ⟨bd, o2, o3, o4, rfl, hbd⟩
    obtain ⟨w, hw, rfl⟩ := get_map hx
    have hwb := hb w (List.mem_of_getElem? hw)
    have mem1 : x ∈ xs.take (i + 1) → x ∈ xs.take i ∨ w = x := fun hm => by
      rw [List.take_add_one, hw, List.mem_append] at hm
      rcases hm with hm | hm
      · exact .inl hm
      · simp at hm
        exact .inr hm.symm
    walk_at "go"
    refine lc_filterE (p := fun y => PyData.eqv y (hD w)) (g := id) (fun env => ∃ o4, env = [some (.d (.tuple (xs.map hD))), some (.d bd), some (.d (hD w)), o3, o4]) ⟨_, rfl⟩ (by rw [List.length_map]; omega) (fun i' x' k1 k2 e' he' hx' ht hf => ?_) ?_
    · obtain ⟨o4, rfl⟩ := he'
      obtain ⟨z, hz, rfl⟩ := get_map hx'
      walk_at "go"
      · refine decI (fun h => ?_) (fun h => ?_)
        · have h : PyData.eqv (hD z) (hD w) = true := h
          walk_at "wh"
          exact ht h _ ⟨_, rfl⟩
        · have h : ¬ PyData.eqv (hD z) (hD w) = true := h
          walk_at "wh"
          exact hf (by simpa using h) _ ⟨_, rfl⟩
      · rfl
      · rfl
    rintro env ⟨o4, rfl⟩
    have ec := count_filter xs w
    rcases hbd with ⟨rfl, h0⟩ | ⟨y, rfl, hy, h⟩
    · walk_at "go"
      · rw [ec]
        refine ⟨_, _, _, _, rfl, .inr ⟨w, rfl, hwb, fun hm => ?_⟩⟩
        subst h0
        rcases mem1 hm with z | z
        · simp at z
        · exact z
      · exact (by decide : 2 ≤ sizeLine)
    · have keep : xs.count w ≤ xs.count y → x ∈ xs.take (i + 1) → y = x := fun hle hmm => by
        rcases mem1 hmm with z | z
        · exact h z
        · subst z
          refine Decidable.byContradiction fun hne => ?_
          have := two y hne
          omega
      have take : xs.count y ≤ xs.count w → x ∈ xs.take (i + 1) → w = x := fun hle hmm => by
        rcases mem1 hmm with z | z
        · refine Decidable.byContradiction fun hne => ?_
          have h1 := two w hne
          rw [h z] at hle
          omega
        · exact z
      walk_at "go"
      rw [ec]
      refine decI (fun h1 => ?_) (fun h1 => ?_)
      · have h1 : decide (((xs.count y : Nat) : Int) < ((xs.count w : Nat) : Int)) = true := h1
        have h1 := of_decide_eq_true h1
        walk_at "wh"
        refine ⟨(by decide : 2 ≤ sizeLine), ?_⟩
        walk_at "wh"
        exact ⟨_, _, _, _, rfl, .inr ⟨w, rfl, hwb, take (by omega)⟩⟩
      · have h1 : ¬ decide (((xs.count y : Nat) : Int) < ((xs.count w : Nat) : Int)) = true := h1
        have h1 : xs.count w ≤ xs.count y := by simp at h1; omega
        walk_at "go"
        refine decI (fun h2 => ?_) (fun h2 => ?_)
        · have h2 : decide (((xs.count w : Nat) : Int) = ((xs.count y : Nat) : Int)) = true := h2
          rw [i2n] at h2
          have h2 := of_decide_eq_true h2
          walk_at "go"
          refine ⟨hv w, hv y, 20, rfl, hv_fit (by omega), hv_fit (by omega), by decide, ?_⟩
          walk_at "go"
          refine decI (fun h3 => ?_) (fun h3 => ?_)
          · walk_at "wh"
            refine ⟨(by decide : 2 ≤ sizeLine), ?_⟩
            walk_at "wh"
            exact ⟨_, _, _, _, rfl, .inr ⟨w, rfl, hwb, take (by omega)⟩⟩
          · walk_at "wh"
            exact ⟨_, _, _, _, rfl, .inr ⟨y, rfl, hy, keep h1⟩⟩
        · walk_at "wh"
          exact ⟨_, _, _, _, rfl, .inr ⟨y, rfl, hy, keep h1⟩⟩
  · rintro e ⟨bd, o2, o3, o4, rfl, hbd⟩
    rw [List.length_map, List.take_length] at hbd
    have hc : 0 < xs.count x := by omega
    have hmem : x ∈ xs := List.count_pos_iff.mp hc
    rcases hbd with ⟨rfl, h0⟩ | ⟨y, rfl, hy, h⟩
    · have := List.length_pos_of_mem hmem
      omega
    · rw [h hmem]
      walk_at "wh"
      exact q
theorem rd_at {R : List (Option Int)} {k : Nat} {n : Int} (h : R[k]? = some (some n)) : rd R k = n := by
  unfold rd
  rw [h]
theorem est_bound {R : List (Option Int)} {Ws : List (List (Nat × Int))} (hr : Read R Ws) : ∀ W ∈ Ws, (∀ n ∈ W.map fun s => s.2 * rd R s.1, n.natAbs ≤ 1000) ∧ (est R W).natAbs ≤ 60000 := fun W hW => by
  obtain ⟨h1, h2⟩ := hr W hW
  have h3 : ∀ n ∈ W.map fun s => s.2 * rd R s.1, n.natAbs ≤ 1000 := fun n hn => by
    obtain ⟨s, hs, rfl⟩ := List.mem_map.mp hn
    obtain ⟨hd, m, hm, hb⟩ := h2 s hs
    rw [rd_at hm]
    rcases hd with z | z <;> rw [z] <;> omega
  refine ⟨h3, ?_⟩
  have h4 := sum_bound h3
  rw [List.length_map] at h4
  have : W.length * 1000 ≤ 60 * 1000 := Nat.mul_le_mul_right _ h1
  unfold est
  omega
theorem m_way_estimates (os : List O) (Q : O → List O → Prop) (h : sp_way_estimates os Q) : Ends r_way_estimates n_way_estimates os Q := by
  obtain ⟨R, Ws, rfl, hz, hr, q⟩ := h
  walk_at "go"
  refine lc_mapE (ys := (Ws.map (est R)).map hD) (fun env => ∃ o2 o3 o4, env = [some (.d (readsD R)), some (.d (.tuple (Ws.map wayD))), o2, o3, o4]) ⟨_, _, _, rfl⟩ (by simp) (by rw [List.length_map]; omega) (fun i x y k e' he' hx hy hk => ?_) ?_
  · obtain ⟨o2, o3, o4, rfl⟩ := he'
    obtain ⟨W, hW, rfl⟩ := get_map hx
    rw [List.getElem?_map, List.getElem?_map, hW] at hy
    cases hy
    have hWm := List.mem_of_getElem? hW
    obtain ⟨hw1, hw2⟩ := hr W hWm
    walk_at "wh"
    refine lc_mapE (ys := (W.map fun s => s.2 * rd R s.1).map hD) (fun env => ∃ o2 o3, env = [some (.d (readsD R)), some (.d (.tuple (Ws.map wayD))), o2, o3, some (.d (wayD W))]) ⟨_, _, rfl⟩ (by simp) (by rw [List.length_map]; omega) (fun i x y k e' he' hx hy hk => ?_) ?_
    · obtain ⟨o2, o3, rfl⟩ := he'
      obtain ⟨s, hs, rfl⟩ := get_map hx
      rw [List.getElem?_map, List.getElem?_map, hs] at hy
      cases hy
      obtain ⟨hd, n, hn, hb⟩ := hw2 s (List.mem_of_getElem? hs)
      walk_at "wh"
      refine ⟨rfl, ?_⟩
      walk_at "wh"
      refine ⟨_, atI_map hn, ?_⟩
      walk_at "wh"
      refine ⟨s.2, hv n, 20, rfl, hv_fit (by omega), ?_, by decide, ?_⟩
      · rcases hd with z | z <;> rw [z]
        · exact Nat.one_lt_two_pow (by decide)
        · exact Nat.one_lt_two_pow (by decide)
      walk_at "wh"
      rw [hv_mul, ← rd_at hn]
      exact hk _ ⟨_, _, rfl⟩
    rintro env ⟨o2, o3, rfl⟩
    walk_at "wh"
    refine ⟨W.map fun s => s.2 * rd R s.1, rfl, by rw [List.length_map]; exact hw1, (est_bound hr W hWm).1, ?_⟩
    walk_at "wh"
    exact hk _ ⟨_, _, _, rfl⟩
  rintro env ⟨o2, o3, o4, rfl⟩
  walk_at "wh"
  exact q
theorem m_way_vote (os : List O) (Q : O → List O → Prop) (h : sp_way_vote os Q) : Ends r_way_vote n_way_vote os Q := by
  obtain ⟨R, Ws, x, rfl, hz, hr, hm, q⟩ := h
  walk_at "go"
  refine ⟨R, Ws, rfl, hz, hr, ?_⟩
  walk_at "wh"
  refine ⟨Ws.map (est R), x, rfl, by rw [List.length_map]; exact hz, fun n hn => ?_, by rw [List.length_map]; exact hm, ?_⟩
  · obtain ⟨W, hW, rfl⟩ := List.mem_map.mp hn
    exact (est_bound hr W hW).2
  walk_at "wh"
  exact q
theorem m_law_estimates (os : List O) (Q : O → List O → Prop) (h : sp_law_estimates os Q) : Ends r_law_estimates n_law_estimates os Q := by
  obtain ⟨R, Ws, rfl, hz, hr, q⟩ := h
  walk_at "go"
  · refine ⟨fun i e => ∃ o3 o4 o5 o6, e = [some (.d (readsD R)), some (.d (.tuple (Ws.map wayD))), some (.own (((Ws.take i).map (est R)).map hD)), o3, o4, o5, o6], ⟨_, _, _, _, rfl⟩, ?_, ?_⟩
    · rintro i x e hx ⟨o3, o4, o5, o6, rfl⟩
      obtain ⟨W, hW, rfl⟩ := get_map hx
      have hWm := List.mem_of_getElem? hW
      obtain ⟨hw1, hw2⟩ := hr W hWm
      have hb2 := (est_bound hr W hWm).1
      walk_at "go"
      · refine ⟨fun j e => ∃ o5 o6, e = [some (.d (readsD R)), some (.d (.tuple (Ws.map wayD))), some (.own (((Ws.take i).map (est R)).map hD)), some (.d (wayD W)), some (.d (hD ((W.map fun s => s.2 * rd R s.1).take j).sum)), o5, o6], ⟨_, _, by rw [List.take_zero, show ([] : List Int).sum = 0 from rfl, hD_zero]; rfl⟩, ?_, ?_⟩
        · rintro j y e hy ⟨o5, o6, rfl⟩
          obtain ⟨s, hs, rfl⟩ := get_map hy
          obtain ⟨hd, n, hn, hb⟩ := hw2 s (List.mem_of_getElem? hs)
          have h1 := sum_take (i := j) (by rw [List.length_map]; exact hw1) hb2
          walk_at "wh"
          refine ⟨rfl, ?_⟩
          walk_at "wh"
          refine ⟨_, atI_map hn, ?_⟩
          walk_at "wh"
          refine ⟨hv _, hv n, s.2, 20, 20, rfl, hv_fit (by omega), hv_fit (by omega), by decide, hd, ?_⟩
          walk_at "wh"
          rw [hv_step, ← rd_at hn, ← sum_next (by rw [List.getElem?_map, hs]; rfl)]
          exact ⟨_, _, rfl⟩
        · rintro e ⟨o5, o6, rfl⟩
          have el : (W.map stD).length = (W.map fun s => s.2 * rd R s.1).length := by rw [List.length_map, List.length_map]
          rw [el, List.take_length]
          walk_at "wh"
          refine ⟨by rw [List.length_map, List.length_map, List.length_take, sizeLine_eq]; omega, ?_⟩
          walk_at "wh"
          refine ⟨some (.d (wayD W)), some (.d (hD (W.map fun s => s.2 * rd R s.1).sum)), o5, o6, ?_⟩
          rw [List.take_add_one, hW, List.map_append, List.map_append]
          rfl
      · exact (by decide : 2 ≤ sizeLine)
    · rintro e ⟨o3, o4, o5, o6, rfl⟩
      rw [List.length_map, List.take_length]
      walk_at "wh"
      exact q
  · exact Nat.zero_le _
theorem f_quotient_of {P : Program} {w : World} {K : Fg} {mg : Str → Option Value} {base : Heap} {f : Addr} {fd : FuncData} (g : Gs K mg) (F : Fun K "quotient_of" "quotient_of" s_quotient_of f fd) : FnOk P w K mg base CX0 1 f fd ["number", "other"] (SpOf K sp_quotient_of) :=
  fn_ok F sc_quotient_of [] (fun cdv A outer s H E hr => q_quotient_of g cdv A outer s H E hr) (by walk_at "len") (by walk_at "keep") m_quotient_of
theorem mono_quotient_of : sp_quotient_of.Mono := by walk_at "mono"

theorem f_plus_of {P : Program} {w : World} {K : Fg} {mg : Str → Option Value} {base : Heap} {f : Addr} {fd : FuncData} (g : Gs K mg) (h_quotient_of : Has P w K mg base "quotient_of" ["number", "other"] 1 sp_quotient_of) (F : Fun K "plus_of" "plus_of" s_plus_of f fd) : FnOk P w K mg base CX0 2 f fd ["one", "other"] (SpOf K sp_plus_of) :=
  fn_ok F sc_plus_of [] (fun cdv A outer s H E hr => q_plus_of g h_quotient_of cdv A outer s H E hr) (by walk_at "len") (by walk_at "keep") m_plus_of
theorem mono_plus_of : sp_plus_of.Mono := by walk_at "mono"

theorem f_is_below {P : Program} {w : World} {K : Fg} {mg : Str → Option Value} {base : Heap} {f : Addr} {fd : FuncData} (g : Gs K mg) (F : Fun K "is_below" "is_below" s_is_below f fd) : FnOk P w K mg base CX0 1 f fd ["one", "other"] (SpOf K sp_is_below) :=
  fn_ok F sc_is_below [] (fun cdv A outer s H E hr => q_is_below g cdv A outer s H E hr) (by walk_at "len") (by walk_at "keep") m_is_below
theorem mono_is_below : sp_is_below.Mono := by walk_at "mono"

theorem f_scaled_by {P : Program} {w : World} {K : Fg} {mg : Str → Option Value} {base : Heap} {f : Addr} {fd : FuncData} (g : Gs K mg) (h_quotient_of : Has P w K mg base "quotient_of" ["number", "other"] 1 sp_quotient_of) (F : Fun K "scaled_by" "scaled_by" s_scaled_by f fd) : FnOk P w K mg base CX0 2 f fd ["number", "one"] (SpOf K sp_scaled_by) :=
  fn_ok F sc_scaled_by [] (fun cdv A outer s H E hr => q_scaled_by g h_quotient_of cdv A outer s H E hr) (by walk_at "len") (by walk_at "keep") m_scaled_by
theorem mono_scaled_by : sp_scaled_by.Mono := by walk_at "mono"

theorem f_added {P : Program} {w : World} {K : Fg} {mg : Str → Option Value} {base : Heap} {f : Addr} {fd : FuncData} (g : Gs K mg) (h_plus_of : Has P w K mg base "plus_of" ["one", "other"] 2 sp_plus_of) (F : Fun K "added" "added" s_added f fd) : FnOk P w K mg base CX0 3 f fd ["row"] (SpOf K sp_added) :=
  fn_ok F sc_added [] (fun cdv A outer s H E hr => q_added g h_plus_of cdv A outer s H E hr) (by walk_at "len") (by walk_at "keep") m_added
theorem mono_added : sp_added.Mono := by walk_at "mono"

theorem f_most_often {P : Program} {w : World} {K : Fg} {mg : Str → Option Value} {base : Heap} {f : Addr} {fd : FuncData} (g : Gs K mg) (h_is_below : Has P w K mg base "is_below" ["one", "other"] 1 sp_is_below) (F : Fun K "most_often" "most_often" s_most_often f fd) : FnOk P w K mg base CX0 2 f fd ["worths"] (SpOf K sp_most_often) :=
  fn_ok F sc_most_often [] (fun cdv A outer s H E hr => q_most_often g h_is_below cdv A outer s H E hr) (by walk_at "len") (by walk_at "keep") m_most_often
theorem mono_most_often : sp_most_often.Mono := by walk_at "mono"

theorem f_way_estimates {P : Program} {w : World} {K : Fg} {mg : Str → Option Value} {base : Heap} {f : Addr} {fd : FuncData} (g : Gs K mg) (h_scaled_by : Has P w K mg base "scaled_by" ["number", "one"] 2 sp_scaled_by) (h_added : Has P w K mg base "added" ["row"] 3 sp_added) (F : Fun K "way_estimates" "way_estimates" s_way_estimates f fd) : FnOk P w K mg base CX0 4 f fd ["readings", "ways"] (SpOf K sp_way_estimates) :=
  fn_ok F sc_way_estimates [] (fun cdv A outer s H E hr => q_way_estimates g h_scaled_by h_added cdv A outer s H E hr) (by walk_at "len") (by walk_at "keep") m_way_estimates
theorem mono_way_estimates : sp_way_estimates.Mono := by walk_at "mono"

theorem f_way_vote {P : Program} {w : World} {K : Fg} {mg : Str → Option Value} {base : Heap} {f : Addr} {fd : FuncData} (g : Gs K mg) (h_most_often : Has P w K mg base "most_often" ["worths"] 2 sp_most_often) (h_way_estimates : Has P w K mg base "way_estimates" ["readings", "ways"] 4 sp_way_estimates) (F : Fun K "way_vote" "way_vote" s_way_vote f fd) : FnOk P w K mg base CX0 5 f fd ["readings", "ways"] (SpOf K sp_way_vote) :=
  fn_ok F sc_way_vote [] (fun cdv A outer s H E hr => q_way_vote g h_most_often h_way_estimates cdv A outer s H E hr) (by walk_at "len") (by walk_at "keep") m_way_vote
theorem mono_way_vote : sp_way_vote.Mono := by walk_at "mono"

theorem f_law_quotient {P : Program} {w : World} {K : Fg} {mg : Str → Option Value} {base : Heap} {f : Addr} {fd : FuncData} (g : Gs K mg) (F : Fun K "_law_quotient" "_law_quotient" s_law_quotient f fd) : FnOk P w K mg base CX0 1 f fd ["number", "other"] (SpOf K sp_law_quotient) :=
  fn_ok F sc_law_quotient [] (fun cdv A outer s H E hr => q_law_quotient g cdv A outer s H E hr) (by walk_at "len") (by walk_at "keep") m_law_quotient
theorem mono_law_quotient : sp_law_quotient.Mono := by walk_at "mono"

theorem f_law_plus {P : Program} {w : World} {K : Fg} {mg : Str → Option Value} {base : Heap} {f : Addr} {fd : FuncData} (g : Gs K mg) (h_law_quotient : Has P w K mg base "_law_quotient" ["number", "other"] 1 sp_law_quotient) (F : Fun K "_law_plus" "_law_plus" s_law_plus f fd) : FnOk P w K mg base CX0 2 f fd ["one", "other", "sign"] (SpOf K sp_law_plus) :=
  fn_ok F sc_law_plus [] (fun cdv A outer s H E hr => q_law_plus g h_law_quotient cdv A outer s H E hr) (by walk_at "len") (by walk_at "keep") m_law_plus
theorem mono_law_plus : sp_law_plus.Mono := by walk_at "mono"

theorem f_law_estimates {P : Program} {w : World} {K : Fg} {mg : Str → Option Value} {base : Heap} {f : Addr} {fd : FuncData} (g : Gs K mg) (h_law_plus : Has P w K mg base "_law_plus" ["one", "other", "sign"] 2 sp_law_plus) (F : Fun K "_law_estimates" "_law_estimates" s_law_estimates f fd) : FnOk P w K mg base CX0 3 f fd ["readings", "ways"] (SpOf K sp_law_estimates) :=
  fn_ok F sc_law_estimates [] (fun cdv A outer s H E hr => q_law_estimates g h_law_plus cdv A outer s H E hr) (by walk_at "len") (by walk_at "keep") m_law_estimates
theorem mono_law_estimates : sp_law_estimates.Mono := by walk_at "mono"

end K76
set_option Elab.async false
set_option linter.all false
set_option maxRecDepth 100000
set_option maxHeartbeats 1000000
set_option exponentiation.threshold 20000
set_option pp.deepTerms false
set_option pp.maxSteps 500
namespace K76
open PySem PySem.Spec PyProof.Rows L2 Pf
local macro_rules | `(tactic| walk_at "go") => `(tactic| (conv => whnf) <;> repeat ((first | refine atE rfl ?_ | refine andR ?_ ?_); (conv => whnf)))
local macro_rules | `(tactic| walk_at "wh") => `(tactic| conv => whnf)
local macro_rules | `(tactic| walk_at "len") => `(tactic| (intro os Q h; (repeat (obtain ⟨_, h⟩ := h)); subst_vars; rfl))
local macro_rules | `(tactic| walk_at "keep") => `(tactic| (intro os Q h; (repeat (obtain ⟨_, h⟩ := h)); subst_vars; simp [keepOk]))
local macro_rules | `(tactic| walk_at "mono") => `(tactic| (intro os k k' f; repeat (first | exact f _ _ | refine Exists.imp fun _ => ?_ | refine And.imp_right ?_ | refine forall_imp fun _ => ?_)))
/-! what the law draws -/
open Fl (Net)
def PlOk (a b : Int) : Prop := 0 ≤ a ∧ a.natAbs < 2 ^ 900 ∧ 0 ≤ b ∧ b.natAbs < 2 ^ 32
abbrev plD (a b : Int) : O := .own [.int a, .int b]
def Pl (p : O) : Prop := ∃ a b : Int, p = plD a b ∧ PlOk a b
def sp_law_pool : FSp := fun os Q => ∃ zs : List Int, os = [.d (.list (zD zs))] ∧ zs.length ≤ 63 ∧ ∀ p, Pl p → Q p os
def sp_law_draw : FSp := fun os Q => ∃ (a b : Int) (many : Nat), os = [plD a b, .d (.int (many : Nat))] ∧ PlOk a b ∧ 1 ≤ many ∧ many ≤ 1000 ∧ ∀ (x : Nat) (a' b' : Int), x < many → PlOk a' b' → Q (.d (.int (x : Nat))) [plD a' b', .d (.int (many : Nat))]
def sp_law_order : FSp := fun os Q => ∃ (a b : Int) (many : Nat), os = [plD a b, .d (.int (many : Nat))] ∧ PlOk a b ∧ many ≤ 60 ∧ ∀ (ks : List Nat) (a' b' : Int), ks.Perm (List.range many) → PlOk a' b' → Q (.own (natD ks)) [plD a' b', .d (.int (many : Nat))]
def sp_law_names : FSp := fun os Q => ∃ (a b : Int) (many : Nat), os = [plD a b, .d (.int (many : Nat))] ∧ PlOk a b ∧ many ≤ 60 ∧ ∀ (zs : List Str) (a' b' : Int), zs.length = many → PlOk a' b' → Q (.own (zs.map PyData.str)) [plD a' b', .d (.int (many : Nat))]
def sp_law_blanks : FSp := fun os Q => ∃ (a b : Int) (ns : List Str) (L : List Ln) (part : Nat), os = [plD a b, .d (lvD ns L), .d (.int (part : Nat))] ∧ PlOk a b ∧ L.length ≤ 60 ∧ 1 ≤ part ∧ part ≤ 1000 ∧ ∀ (bl : List Nat) (a' b' : Int), bl.length ≤ L.length → (∀ x ∈ bl, x < L.length) → PlOk a' b' → Q (.d (natsD bl)) [plD a' b', .d (lvD ns L), .d (.int (part : Nat))]
def sp_law_two : FSp := fun os Q => ∃ (a b : Int) (ns : List Str) (L : List Ln), os = [plD a b, .d (lvD ns L)] ∧ PlOk a b ∧ 2 ≤ ns.length ∧ ns.length ≤ 100 ∧ ∀ (x y : Nat) (a' b' : Int), x < ns.length → y < ns.length → x ≠ y → PlOk a' b' → Q (.d (.tuple [.int (x : Nat), .int (y : Nat)])) [plD a' b', .d (lvD ns L)]
/-! ### _law_pool -/
abbrev s_law_pool : Stmt := topS 31
abbrev n_law_pool : List Str := ["script", "state", "k", "first"]
theorem sc_law_pool : FnScope n_law_pool ["script"] (defScope s_law_pool) := ⟨rfl, rfl, rfl, by decide +kernel, rfl, by decide +kernel, by decide +kernel⟩
def r_law_pool : RS := (rSeq (rSet 1 (rO (rC (.int 40009))))
  (rSeq (rFor (rRng1 (rD (rCB fMin2 (rACons (rP (rD (rCB fLen (rACons (rN 0) rANil)))) (rACons (rP (rC (.int 63))) rANil))))) (rGn 2) (rSet 1 (rOp bMod (rP (rD (rCB fInt (rACons (rP (rD (rOp dAdd (rP (rD (rOp dAdd (rP (rD (rOp dAdd (rP (rD (rOp dMul (rN 1) (rP (rC (.int 599)))))) (rP (rD (rOp bMod (rP (rD (rCB fInt (rACons (rP (rD (rOp dIx (rN 0) (rN 2)))) rANil)))) (rP (rC (.int 1000121))))))))) (rP (rD (rOp dMul (rP (rC (.int 53))) (rN 2))))))) (rP (rC (.int 23)))))) rANil)))) (rP (rC (.int 2147483549))))))
  (rSeq (rSet 3 (rO (rC (.int 0))))
  (rSeq (rIfS (rAnd (rCmp bGt (rP (rD (rCB fLen (rACons (rN 0) rANil)))) (rP (rC (.int 0)))) (rCmp bGe (rP (rD (rCB fInt (rACons (rP (rD (rOp dIx (rN 0) (rP (rC (.int 0)))))) rANil)))) (rP (rD (rOp bPow (rP (rC (.int 10))) (rP (rC (.int 18)))))))) (rSet 3 (rOp bMod (rP (rD (rCB fInt (rACons (rP (rD (rOp dIx (rN 0) (rP (rC (.int 0)))))) rANil)))) (rP (rD (rOp dMul (rP (rD (rOp dMul (rP (rD (rOp dMul (rP (rD (rOp bPow (rP (rC (.int 10))) (rP (rC (.int 63)))))) (rP (rD (rOp bPow (rP (rC (.int 10))) (rP (rC (.int 63))))))))) (rP (rD (rOp bPow (rP (rC (.int 10))) (rP (rC (.int 63))))))))) (rP (rD (rOp bPow (rP (rC (.int 10))) (rP (rC (.int 63))))))))))) rNext)
  (rRet (rLst (rCons (rVar 3) (rCons (rVar 1) rNil))))))))
theorem q_law_pool {P : Program} {w : World} {K : Fg} {mg : Str → Option Value} {base : Heap} {f : Addr} (g : Gs K mg) (cdv : Value) (A : Around) (outer : List PySem.Env) (s : Shared) (H : Hp) (E : XK) (hr : Room 0 (A.deeper (envOfC "_law_pool" (defScope s_law_pool) s.heap.objs.size f cdv))) :
    QSs (cxOf CX0 P w K mg base n_law_pool "_law_pool" (defScope s_law_pool) f cdv A outer s H E).nox [] (defBody s_law_pool) r_law_pool :=
  (qss_cons (qs_set 1 sc_law_pool.nd (QV.o qv_int))
  (qss_cons (qs_for PassesOwn.never rfl (qf_range1 g.range (QE.v (qe_min2 rfl g.min (qa_cons ((QE.v (qe_len g.len (qa_cons (qp_var 0) qa_nil)))).p (qa_cons (qv_int).p qa_nil))))) (qg_name 2 sc_law_pool.nd) (qss_one (qs_set 1 sc_law_pool.nd (qe_mod ((QE.v (qe_int g.int (qa_cons ((QE.v (qe_add ((QE.v (qe_add ((QE.v (qe_add ((QE.v (qe_mul (qp_var 1) (qv_int).p))).p ((QE.v (qe_mod ((QE.v (qe_int g.int (qa_cons ((qv_ix (qp_var 0) (qp_var 2))).p qa_nil)))).p (qv_int).p))).p))).p ((QE.v (qe_mul (qv_int).p (qp_var 2)))).p))).p (qv_int).p))).p qa_nil)))).p (qv_int).p))))
  (qss_cons (qs_set 3 sc_law_pool.nd (QV.o qv_int))
  (qss_cons (qs_if (QW.t (qw_and (qt_gt ((QE.v (qe_len g.len (qa_cons (qp_var 0) qa_nil)))).p (qv_int).p) (qw_and1 (qt_ge ((QE.v (qe_int g.int (qa_cons ((qv_ix (qp_var 0) (qv_int).p)).p qa_nil)))).p ((QE.v (qe_pow (qv_int).p (qv_int).p))).p)))) (qss_one (qs_set 3 sc_law_pool.nd (qe_mod ((QE.v (qe_int g.int (qa_cons ((qv_ix (qp_var 0) (qv_int).p)).p qa_nil)))).p ((QE.v (qe_mul ((QE.v (qe_mul ((QE.v (qe_mul ((QE.v (qe_pow (qv_int).p (qv_int).p))).p ((QE.v (qe_pow (qv_int).p (qv_int).p))).p))).p ((QE.v (qe_pow (qv_int).p (qv_int).p))).p))).p ((QE.v (qe_pow (qv_int).p (qv_int).p))).p))).p))) qss_nil)
  (qss_one (qs_ret (qe_lst (ql_cons (qv_var 3) (ql_cons (qv_var 1) ql_nil)))))))))

/-! ### _law_draw -/
abbrev s_law_draw : Stmt := topS 32
abbrev n_law_draw : List Str := ["pool", "many", "got"]
theorem sc_law_draw : FnScope n_law_draw ["pool", "many"] (defScope s_law_draw) := ⟨rfl, rfl, rfl, by decide +kernel, rfl, by decide +kernel, by decide +kernel⟩
def r_law_draw : RS := (rSeq (rIfS (rCmp bGt (rP (rD (rOp dIx (rN 0) (rP (rC (.int 0)))))) (rP (rC (.int 0)))) (rSeq (rSet 2 (rOp bMod (rP (rD (rCB fInt (rACons (rP (rD (rOp dIx (rN 0) (rP (rC (.int 0)))))) rANil)))) (rN 1)))
  (rSeq (rSetIx 0 (rD (rOp bFdiv (rP (rD (rOp dIx (rN 0) (rP (rC (.int 0)))))) (rN 1))) (rC (.int 0)))
  (rRet (rO (rVar 2))))) rNext)
  (rSeq (rSetIx 0 (rD (rOp bMod (rP (rD (rCB fInt (rACons (rP (rD (rOp dAdd (rP (rD (rOp dMul (rP (rD (rOp dIx (rN 0) (rP (rC (.int 1)))))) (rP (rC (.int 44221)))))) (rP (rC (.int 41)))))) rANil)))) (rP (rC (.int 2147483549))))) (rC (.int 1)))
  (rRet (rOp bMod (rP (rD (rCB fInt (rACons (rP (rD (rOp bFdiv (rP (rD (rOp dIx (rN 0) (rP (rC (.int 1)))))) (rP (rC (.int 64)))))) rANil)))) (rN 1)))))
theorem q_law_draw {P : Program} {w : World} {K : Fg} {mg : Str → Option Value} {base : Heap} {f : Addr} (g : Gs K mg) (cdv : Value) (A : Around) (outer : List PySem.Env) (s : Shared) (H : Hp) (E : XK) (hr : Room 0 (A.deeper (envOfC "_law_draw" (defScope s_law_draw) s.heap.objs.size f cdv))) :
    QSs (cxOf CX0 P w K mg base n_law_draw "_law_draw" (defScope s_law_draw) f cdv A outer s H E).nox [0] (defBody s_law_draw) r_law_draw :=
  (qss_cons (qs_if (qt_gt ((qv_ix (qp_var 0) (qv_int).p)).p (qv_int).p) (qss_cons (qs_set 2 sc_law_draw.nd (qe_mod ((QE.v (qe_int g.int (qa_cons ((qv_ix (qp_var 0) (qv_int).p)).p qa_nil)))).p (qp_var 1)))
  (qss_cons (qs_setIx 0 (QE.v (qe_fdiv ((qv_ix (qp_var 0) (qv_int).p)).p (qp_var 1))) qv_int)
  (qss_one (qs_ret (QV.o (qv_var 2)))))) qss_nil)
  (qss_cons (qs_setIx 0 (QE.v (qe_mod ((QE.v (qe_int g.int (qa_cons ((QE.v (qe_add ((QE.v (qe_mul ((qv_ix (qp_var 0) (qv_int).p)).p (qv_int).p))).p (qv_int).p))).p qa_nil)))).p (qv_int).p)) qv_int)
  (qss_one (qs_ret (qe_mod ((QE.v (qe_int g.int (qa_cons ((QE.v (qe_fdiv ((qv_ix (qp_var 0) (qv_int).p)).p (qv_int).p))).p qa_nil)))).p (qp_var 1))))))

/-! ### _law_order -/
abbrev s_law_order : Stmt := topS 33
abbrev n_law_order : List Str := ["pool", "many", "left", "k"]
theorem sc_law_order : FnScope n_law_order ["pool", "many"] (defScope s_law_order) := ⟨rfl, rfl, rfl, by decide +kernel, rfl, by decide +kernel, by decide +kernel⟩
def r_law_order : RS := (rSeq (rSet 2 (rListRg (rVar 1)))
  (rRet (rLc (rRng1 (rVar 1)) (rGn 3) rYes (rD (rPopI 2 (rD (rCall sp_law_draw (rACons (rN 0) (rACons (rP (rD (rCB fLen (rACons (rN 2) rANil)))) rANil)))))) [3])))
theorem q_law_order {P : Program} {w : World} {K : Fg} {mg : Str → Option Value} {base : Heap} {f : Addr} (g : Gs K mg) (h_law_draw : Has P w K mg base "_law_draw" ["pool", "many"] 1 sp_law_draw) (cdv : Value) (A : Around) (outer : List PySem.Env) (s : Shared) (H : Hp) (E : XK) (hr : Room 1 (A.deeper (envOfC "_law_order" (defScope s_law_order) s.heap.objs.size f cdv))) :
    QSs (cxOf CX0 P w K mg base n_law_order "_law_order" (defScope s_law_order) f cdv A outer s H E).nox [0] (defBody s_law_order) r_law_order :=
  (qss_cons (qs_set 2 sc_law_order.nd (qe_listrg rfl g.list g.range (qv_var 1)))
  (qss_one (qs_ret (qe_lc (own := [("k", 3)]) rfl sc_law_order.nd (qf_range1 g.range (qv_var 1)) (blkOk_by (by rfl)) (fun _ _ _ _ _ => (qg_name 3 sc_law_order.nd)) (fun _ _ _ _ _ => qts_nil) (fun _ _ _ _ _ => (QE.v (qe_popI 2 (QE.v (qe_call h_law_draw (hr.mono (by decide)) (qa_cons (qp_var 0) (qa_cons ((QE.v (qe_len g.len (qa_cons (qp_var 2) qa_nil)))).p qa_nil)))))))))))

/-! ### _law_names -/
abbrev s_law_names : Stmt := topS 35
abbrev n_law_names : List Str := ["pool", "many", "k"]
theorem sc_law_names : FnScope n_law_names ["pool", "many"] (defScope s_law_names) := ⟨rfl, rfl, rfl, by decide +kernel, rfl, by decide +kernel, by decide +kernel⟩
def r_law_names : RS := (rRet (rLc (rRng1 (rVar 1)) (rGn 2) rYes (rD (rOp dAdd (rP (rD (rOp dMulS (rP (rD (rOp dIx (rP (rC (.str "abcdefghijklmnopqrstuvwxyz"))) (rP (rD (rCall sp_law_draw (rACons (rN 0) (rACons (rP (rC (.int 26))) rANil)))))))) (rP (rD (rOp dAdd (rP (rC (.int 1))) (rP (rD (rCall sp_law_draw (rACons (rN 0) (rACons (rP (rC (.int 6))) rANil))))))))))) (rP (rD (rCB fStr (rACons (rN 2) rANil)))))) [2]))
theorem q_law_names {P : Program} {w : World} {K : Fg} {mg : Str → Option Value} {base : Heap} {f : Addr} (g : Gs K mg) (h_law_draw : Has P w K mg base "_law_draw" ["pool", "many"] 1 sp_law_draw) (cdv : Value) (A : Around) (outer : List PySem.Env) (s : Shared) (H : Hp) (E : XK) (hr : Room 1 (A.deeper (envOfC "_law_names" (defScope s_law_names) s.heap.objs.size f cdv))) :
    QSs (cxOf CX0 P w K mg base n_law_names "_law_names" (defScope s_law_names) f cdv A outer s H E).nox [0] (defBody s_law_names) r_law_names :=
  (qss_one (qs_ret (qe_lc (own := [("k", 2)]) rfl sc_law_names.nd (qf_range1 g.range (qv_var 1)) (blkOk_by (by rfl)) (fun _ _ _ _ _ => (qg_name 2 sc_law_names.nd)) (fun _ _ _ _ _ => qts_nil) (fun _ _ _ _ _ => (QE.v (qe_add ((QE.v (qe_mulS ((qv_ix (qv_str).p ((QE.v (qe_call h_law_draw (hr.mono (by decide)) (qa_cons (qp_var 0) (qa_cons (qv_int).p qa_nil))))).p)).p ((QE.v (qe_add (qv_int).p ((QE.v (qe_call h_law_draw (hr.mono (by decide)) (qa_cons (qp_var 0) (qa_cons (qv_int).p qa_nil))))).p))).p))).p ((QE.v (qe_str1 g.str (qa_cons (qp_var 2) qa_nil)))).p))))))

/-! ### _law_blanks -/
abbrev s_law_blanks : Stmt := topS 38
abbrev n_law_blanks : List Str := ["pool", "levels", "part", "k"]
theorem sc_law_blanks : FnScope n_law_blanks ["pool", "levels", "part"] (defScope s_law_blanks) := ⟨rfl, rfl, rfl, by decide +kernel, rfl, by decide +kernel, by decide +kernel⟩
def r_law_blanks : RS := (rRet (rCB fTuple (rACons (rP (rD (rLc (rRng1 (rD (rCB fLen (rACons (rP (rD (rOp dIx (rN 1) (rP (rC (.int 1)))))) rANil)))) (rGn 3) (rCmp (dEq false) (rP (rD (rCall sp_law_draw (rACons (rN 0) (rACons (rN 2) rANil))))) (rP (rC (.int 0)))) (rVar 3) [3]))) rANil)))
theorem q_law_blanks {P : Program} {w : World} {K : Fg} {mg : Str → Option Value} {base : Heap} {f : Addr} (g : Gs K mg) (h_law_draw : Has P w K mg base "_law_draw" ["pool", "many"] 1 sp_law_draw) (cdv : Value) (A : Around) (outer : List PySem.Env) (s : Shared) (H : Hp) (E : XK) (hr : Room 1 (A.deeper (envOfC "_law_blanks" (defScope s_law_blanks) s.heap.objs.size f cdv))) :
    QSs (cxOf CX0 P w K mg base n_law_blanks "_law_blanks" (defScope s_law_blanks) f cdv A outer s H E).nox [0] (defBody s_law_blanks) r_law_blanks :=
  (qss_one (qs_ret (qe_tuple g.tuple (qa_cons ((QE.v (qe_lc (own := [("k", 3)]) rfl sc_law_blanks.nd (qf_range1 g.range (QE.v (qe_len g.len (qa_cons ((qv_ix (qp_var 1) (qv_int).p)).p qa_nil)))) (blkOk_by (by rfl)) (fun _ _ _ _ _ => (qg_name 3 sc_law_blanks.nd)) (fun _ _ _ _ _ => (qts_one (qt_eq hr.units ((QE.v (qe_call h_law_draw (hr.mono (by decide)) (qa_cons (qp_var 0) (qa_cons (qp_var 2) qa_nil))))).p (qv_int).p))) (fun _ _ _ _ _ => (qv_var 3))))).p qa_nil))))

/-! ### _law_two -/
abbrev s_law_two : Stmt := topS 39
abbrev n_law_two : List Str := ["pool", "levels", "mark"]
theorem sc_law_two : FnScope n_law_two ["pool", "levels"] (defScope s_law_two) := ⟨rfl, rfl, rfl, by decide +kernel, rfl, by decide +kernel, by decide +kernel⟩
def r_law_two : RS := (rSeq (rSet 2 (rCall sp_law_draw (rACons (rN 0) (rACons (rP (rD (rCB fLen (rACons (rP (rD (rOp dIx (rN 1) (rP (rC (.int 0)))))) rANil)))) rANil))))
  (rRet (rO (rTup (rCons (rVar 2) (rCons (rD (rOp bMod (rP (rD (rCB fInt (rACons (rP (rD (rOp dAdd (rP (rD (rOp dAdd (rN 2) (rP (rC (.int 1)))))) (rP (rD (rCall sp_law_draw (rACons (rN 0) (rACons (rP (rD (rOp bSub (rP (rD (rCB fLen (rACons (rP (rD (rOp dIx (rN 1) (rP (rC (.int 0)))))) rANil)))) (rP (rC (.int 1)))))) rANil)))))))) rANil)))) (rP (rD (rCB fLen (rACons (rP (rD (rOp dIx (rN 1) (rP (rC (.int 0)))))) rANil)))))) rNil))))))
theorem q_law_two {P : Program} {w : World} {K : Fg} {mg : Str → Option Value} {base : Heap} {f : Addr} (g : Gs K mg) (h_law_draw : Has P w K mg base "_law_draw" ["pool", "many"] 1 sp_law_draw) (cdv : Value) (A : Around) (outer : List PySem.Env) (s : Shared) (H : Hp) (E : XK) (hr : Room 1 (A.deeper (envOfC "_law_two" (defScope s_law_two) s.heap.objs.size f cdv))) :
    QSs (cxOf CX0 P w K mg base n_law_two "_law_two" (defScope s_law_two) f cdv A outer s H E).nox [0] (defBody s_law_two) r_law_two :=
  (qss_cons (qs_set 2 sc_law_two.nd (qe_call h_law_draw (hr.mono (by decide)) (qa_cons (qp_var 0) (qa_cons ((QE.v (qe_len g.len (qa_cons ((qv_ix (qp_var 1) (qv_int).p)).p qa_nil)))).p qa_nil))))
  (qss_one (qs_ret (QV.o (qv_tup (ql_cons (qv_var 2) (ql_cons (QE.v (qe_mod ((QE.v (qe_int g.int (qa_cons ((QE.v (qe_add ((QE.v (qe_add (qp_var 2) (qv_int).p))).p ((QE.v (qe_call h_law_draw (hr.mono (by decide)) (qa_cons (qp_var 0) (qa_cons ((QE.v (qe_sub ((QE.v (qe_len g.len (qa_cons ((qv_ix (qp_var 1) (qv_int).p)).p qa_nil)))).p (qv_int).p))).p qa_nil))))).p))).p qa_nil)))).p ((QE.v (qe_len g.len (qa_cons ((qv_ix (qp_var 1) (qv_int).p)).p qa_nil)))).p)) ql_nil)))))))

theorem fm_ok {a : Int} {m : Nat} (hm : 1 ≤ m) : ∃ x : Nat, a.fmod (m : Nat) = (x : Nat) ∧ x < m := by
  have h1 := Int.fmod_nonneg_of_pos a (show (0 : Int) < (m : Nat) by omega)
  have h2 := Int.fmod_lt_of_pos a (show (0 : Int) < (m : Nat) by omega)
  exact ⟨(a.fmod (m : Nat)).toNat, by omega, by omega⟩
theorem fd_ok {a m : Int} (ha : 0 ≤ a) (hm : 0 < m) : 0 ≤ a.fdiv m ∧ a.fdiv m ≤ a := by
  rw [Int.fdiv_eq_ediv_of_nonneg a (by omega)]
  exact ⟨Int.ediv_nonneg ha (by omega), Int.ediv_le_self _ ha⟩
theorem log_few {m : Nat} (h : m ≤ 1000) : ((m : Nat) : Int).natAbs.log2 < 9000 := by
  rw [Int.natAbs_natCast]
  by_cases h0 : m = 0
  · subst h0; decide
  · refine (Nat.log2_lt h0).mpr (Nat.lt_of_le_of_lt h ?_)
    exact Nat.lt_of_lt_of_le (show 1000 < 2 ^ 10 by decide) (Nat.pow_le_pow_right (by decide) (by decide))
theorem m_law_draw (os : List O) (Q : O → List O → Prop) (h : sp_law_draw os Q) : Ends r_law_draw n_law_draw os Q := by
  obtain ⟨a, b, many, rfl, ⟨hp1, hp2, hp3, hp4⟩, h1, h2, q⟩ := h
  have m0 : ((many : Nat) : Int) ≠ 0 := by omega
  walk_at "go"
  refine decI (fun h => ?_) (fun h => ?_)
  · walk_at "go"
    · obtain ⟨x, ex, hx⟩ := fm_ok (a := a) h1
      rw [ex]
      have h3 := fd_ok hp1 (show (0 : Int) < (many : Nat) by omega)
      exact q x (a.fdiv (many : Nat)) b hx ⟨h3.1, by omega, hp3, hp4⟩
    · exact ⟨m0, log_few h2⟩
    · exact m0
  · walk_at "go"
    · obtain ⟨x, ex, hx⟩ := fm_ok (a := ((b * 44221 + 41).fmod 2147483549).fdiv 64) h1
      rw [ex]
      have h3 := Int.fmod_nonneg_of_pos (b * 44221 + 41) (show (0 : Int) < 2147483549 by decide)
      have h4 := Int.fmod_lt_of_pos (b * 44221 + 41) (show (0 : Int) < 2147483549 by decide)
      exact q x a ((b * 44221 + 41).fmod 2147483549) hx ⟨hp1, hp2, h3, by omega⟩
    · exact m0
    · exact ⟨by decide, by decide⟩
    · show (2147483549 : Int) ≠ 0
      decide
    · exact mul_fit (l := 16) hp4 (by decide) (by decide) (by decide)
theorem erase_perm {α : Type} {l : List α} {i : Nat} {x : α} (h : l[i]? = some x) : (x :: l.eraseIdx i).Perm l := by
  induction l generalizing i with
  | nil => simp at h
  | cons y l ih =>
    cases i with
    | zero => simp at h; subst h; exact .refl _
    | succ i =>
      rw [List.eraseIdx_cons_succ]
      exact (List.Perm.swap y x _).trans ((ih (by simpa using h)).cons y)
theorem map_erase (l : List Nat) (i : Nat) : natD (l.eraseIdx i) = (natD l).eraseIdx i := by
  induction l generalizing i with
  | nil => rfl
  | cons x l ih =>
    cases i with
    | zero => rfl
    | succ i =>
      rw [List.eraseIdx_cons_succ, show natD (x :: l) = PyData.int (x : Nat) :: natD l from rfl, List.eraseIdx_cons_succ, ← ih]
      rfl
theorem seqIx {n i : Nat} (h : i < n) : seqIndex? ((i : Nat) : Int) n = some i := by
  unfold seqIndex?
  first
  | (simp; omega)
  | (rw [if_pos (by omega)]; simp)
  | grind
theorem rng_nat (n : Nat) : rngD 0 (n : Nat) = natD (List.range n) := by
  unfold rngD natD
  rw [show ((n : Nat) : Int) - 0 = n by omega, Int.toNat_natCast]
  exact List.map_congr_left fun i _ => by rw [Int.zero_add]
theorem m_law_order (os : List O) (Q : O → List O → Prop) (h : sp_law_order os Q) : Ends r_law_order n_law_order os Q := by
  obtain ⟨a, b, many, rfl, hp, h2, q⟩ := h
  walk_at "go"
  · refine ⟨fun i acc env => ∃ a b ls ks, env = [some (plD a b), some (.d (.int (many : Nat))), some (.own (natD ls)), none] ∧ PlOk a b ∧ acc = natD ks ∧ (ks ++ ls).Perm (List.range many) ∧ ks.length = i, ⟨a, b, List.range many, [], by rw [← rng_nat]; rfl, hp, rfl, .refl _, rfl⟩, ?_, ?_⟩
    · rintro i x acc env hx ⟨a, b, ls, ks, rfl, hp, rfl, hperm, hk⟩
      obtain ⟨_, hi⟩ := rngD_at hx
      have hlen := hperm.length_eq
      rw [List.length_append, List.length_range] at hlen
      have hl1 : ls.length = many - i := by omega
      walk_at "wh"
      refine ⟨a, b, ls.length, ?_, hp, by omega, by omega, fun y a' b' hy hp' => ?_⟩
      · rw [natD_len]
      obtain ⟨z, hz, _⟩ := getAt hy
      walk_at "wh"
      refine ⟨y, .int (z : Nat), by omega, by omega, by rw [natD_len]; exact seqIx hy, by unfold natD; rw [List.getElem?_map, hz]; rfl, ?_⟩
      walk_at "wh"
      refine ⟨by rw [natD_len, sizeLine_eq]; omega, a', b', ls.eraseIdx y, ks ++ [z], ?_, hp', ?_, ?_, by rw [List.length_append, hk]; rfl⟩
      · rw [show natD (ls.eraseIdx y) = (natD ls).eraseIdx y from map_erase ls y]
        rfl
      · rw [natD_snoc]
      · rw [List.append_assoc, List.singleton_append]
        exact ((erase_perm hz).append_left ks).trans hperm
    · rintro acc env ⟨a, b, ls, ks, rfl, hp, rfl, hperm, hk⟩
      rw [rngD_len] at hk
      have hlen := hperm.length_eq
      rw [List.length_append, List.length_range] at hlen
      have h0 : ls = [] := List.eq_nil_of_length_eq_zero (by omega)
      subst h0
      rw [List.append_nil] at hperm
      walk_at "wh"
      exact q ks a b hperm hp
  all_goals omega
theorem m_law_two (os : List O) (Q : O → List O → Prop) (h : sp_law_two os Q) : Ends r_law_two n_law_two os Q := by
  obtain ⟨a, b, ns, L, rfl, hp, h1, h2, q⟩ := h
  have e1 : (ns.map PyData.str).length = ns.length := List.length_map _
  walk_at "go"
  refine ⟨a, b, ns.length, by rw [e1], hp, by omega, by omega, fun x a' b' hx hp' => ?_⟩
  walk_at "go"
  refine ⟨a', b', ns.length - 1, ?_, hp', by omega, by omega, fun y a2 b2 hy hp2 => ?_⟩
  · rw [e1]
    show [plD a' b', O.d (.int (((ns.length : Nat) : Int) - 1))] = _
    rw [show ((ns.length : Nat) : Int) - 1 = ((ns.length - 1 : Nat) : Int) by omega]
  walk_at "go"
  · obtain ⟨z, ez, hz⟩ := fm_ok (a := ((x : Nat) : Int) + 1 + ((y : Nat) : Int)) (show 1 ≤ ns.length by omega)
    have ne : x ≠ z := fun e => by
      subst e
      have h3 : ((x : Nat) : Int) + 1 + ((y : Nat) : Int) = ((x + 1 + y : Nat) : Int) := by omega
      rw [h3, Int.fmod_eq_emod_of_nonneg _ (by omega)] at ez
      have h4 : (x + 1 + y) % ns.length = x := by exact_mod_cast ez
      by_cases hlt : x + 1 + y < ns.length
      · rw [Nat.mod_eq_of_lt hlt] at h4
        omega
      · rw [Nat.mod_eq_sub_mod (by omega), Nat.mod_eq_of_lt (by omega)] at h4
        omega
    have := q x z a2 b2 hx hz ne hp2
    rw [← ez] at this
    rw [e1]
    exact this
  · exact (by decide : 2 ≤ sizeLine)
  · rw [e1]
    show ((ns.length : Nat) : Int) ≠ 0
    omega
theorem m_law_blanks (os : List O) (Q : O → List O → Prop) (h : sp_law_blanks os Q) : Ends r_law_blanks n_law_blanks os Q := by
  obtain ⟨a, b, ns, L, part, rfl, hp, hl, h1, h2, q⟩ := h
  have e1 : (L.map lineD).length = L.length := List.length_map _
  walk_at "go"
  · refine ⟨fun i acc env => ∃ a b ks, env = [some (plD a b), some (.d (lvD ns L)), some (.d (.int (part : Nat))), none] ∧ PlOk a b ∧ acc = natD ks ∧ ks.length ≤ i ∧ (∀ x ∈ ks, x < L.length), ⟨a, b, [], rfl, hp, rfl, Nat.le_refl _, fun x h => (nomatch h)⟩, ?_, ?_⟩
    · rintro i x acc env hx ⟨a, b, ks, rfl, hp, rfl, hk, hkl⟩
      obtain ⟨ex, hi⟩ := rngD_at hx
      rw [e1] at hi
      subst ex
      walk_at "wh"
      refine ⟨a, b, part, rfl, hp, h1, h2, fun y a' b' hy hp' => ?_⟩
      walk_at "wh"
      refine decI (fun h => ?_) (fun h => ?_)
      · walk_at "wh"
        refine ⟨by rw [natD_len, sizeLine_eq]; omega, a', b', ks ++ [i], rfl, hp', ?_, by rw [List.length_append, List.length_singleton]; omega, fun x hx => (List.mem_append.mp hx).elim (hkl x) fun z => by rw [List.mem_singleton.mp z]; omega⟩
        rw [← natD_snoc, show (0 : Int) + ((i : Nat) : Int) = (i : Nat) from Int.zero_add _]
      · walk_at "wh"
        exact ⟨a', b', ks, rfl, hp', rfl, by omega, hkl⟩
    · rintro acc env ⟨a, b, ks, rfl, hp, rfl, hk, hkl⟩
      rw [rngD_len, e1] at hk
      walk_at "wh"
      exact q ks a b (by omega) hkl hp
  · rw [e1]; omega
  · rw [e1]; omega
theorem few60 : ∀ i : Fin 60, (toString ((i.1 : Nat) : Int) : Str).length ≤ 10 := by decide +kernel
theorem m_law_names (os : List O) (Q : O → List O → Prop) (h : sp_law_names os Q) : Ends r_law_names n_law_names os Q := by
  obtain ⟨a, b, many, rfl, hp, h2, q⟩ := h
  walk_at "go"
  · refine ⟨fun i acc env => ∃ a b zs, env = [some (plD a b), some (.d (.int (many : Nat))), none] ∧ PlOk a b ∧ acc = zs.map PyData.str ∧ zs.length = i, ⟨a, b, [], rfl, hp, rfl, rfl⟩, ?_, ?_⟩
    · rintro i x acc env hx ⟨a, b, zs, rfl, hp, rfl, hk⟩
      obtain ⟨ex, hi⟩ := rngD_at hx
      subst ex
      walk_at "wh"
      refine ⟨a, b, 26, rfl, hp, by decide, by decide, fun y a' b' hy hp' => ?_⟩
      have hc26 : y < (Str.ofString "abcdefghijklmnopqrstuvwxyz").cps.toList.length := by
        have : (Str.ofString "abcdefghijklmnopqrstuvwxyz").cps.toList.length = 26 := by decide +kernel
        omega
      obtain ⟨c, hc, _⟩ := getAt hc26
      walk_at "wh"
      refine ⟨by decide +kernel, c, atI_nat hc, ?_⟩
      walk_at "wh"
      refine ⟨a', b', 6, rfl, hp', by decide, by decide, fun x a2 b2 hx2 hp2 => ?_⟩
      have hr : (repS ⟨#[c]⟩ (1 + ((x : Nat) : Int))).length ≤ 6 := by
        have : x = 0 ∨ x = 1 ∨ x = 2 ∨ x = 3 ∨ x = 4 ∨ x = 5 := by omega
        rcases this with rfl | rfl | rfl | rfl | rfl | rfl
        · exact Nat.le_trans (Nat.le_of_eq (show _ = 1 from rfl)) (by decide)
        · exact Nat.le_trans (Nat.le_of_eq (show _ = 2 from rfl)) (by decide)
        · exact Nat.le_trans (Nat.le_of_eq (show _ = 3 from rfl)) (by decide)
        · exact Nat.le_trans (Nat.le_of_eq (show _ = 4 from rfl)) (by decide)
        · exact Nat.le_trans (Nat.le_of_eq (show _ = 5 from rfl)) (by decide)
        · exact Nat.le_trans (Nat.le_of_eq (show _ = 6 from rfl)) (by decide)
      walk_at "wh"
      refine ⟨by omega, by omega, (by decide : 1 ≤ 1000), by rw [sizeLine_eq]; omega, ?_⟩
      have hi60 : i < 60 := by omega
      have ht := few60 ⟨i, hi60⟩
      walk_at "wh"
      refine ⟨?_, ?_⟩
      · rw [Int.zero_add, Int.natAbs_natCast]
        by_cases h0 : i = 0
        · subst h0; decide
        · exact (Nat.log2_lt h0).mpr (Nat.lt_of_lt_of_le hi60 (Nat.le_trans (show 60 ≤ 2 ^ 6 by decide) (Nat.pow_le_pow_right (by decide) (by decide))))
      walk_at "wh"
      refine ⟨?_, ?_⟩
      · show (repS ⟨#[c]⟩ (1 + ((x : Nat) : Int))).length + (toString ((0 : Int) + ((i : Nat) : Int)) : Str).length ≤ sizeLine
        rw [Int.zero_add, sizeLine_eq]
        dsimp only at ht
        omega
      walk_at "wh"
      refine ⟨by rw [List.length_map, sizeLine_eq]; omega, a2, b2, zs ++ [_], rfl, hp2, by rw [List.map_append]; rfl, by rw [List.length_append, hk]; rfl⟩
    · rintro acc env ⟨a, b, zs, rfl, hp, rfl, hk⟩
      rw [rngD_len] at hk
      walk_at "wh"
      exact q zs a b (by omega) hp
  all_goals omega
theorem m_law_pool (os : List O) (Q : O → List O → Prop) (h : sp_law_pool os Q) : Ends r_law_pool n_law_pool os Q := by
  obtain ⟨zs, rfl, hl, q⟩ := h
  have e1 : (zD zs).length = zs.length := List.length_map _
  walk_at "go"
  · refine ⟨fun i env => ∃ st o2 o3, env = [some (.d (.list (zD zs))), some (.d (.int st)), o2, o3] ∧ 0 ≤ st ∧ st.natAbs < 2 ^ 32, ⟨40009, none, none, rfl, by decide, by decide⟩, ?_, ?_⟩
    · rintro i x env hx ⟨st, o2, o3, rfl, hs1, hs2⟩
      obtain ⟨ex, hi⟩ := rngD_at hx
      subst ex
      have hi2 : i < zs.length ∧ i < 63 := by
        have hi : i < ((fun i j : Int => if j < i then j else i) ((zD zs).length : Nat) 63 - 0).toNat := hi
        dsimp only at hi
        rw [e1] at hi
        split at hi <;> omega
      obtain ⟨z, hz, _⟩ := getAt hi2.1
      walk_at "go"
      · refine ⟨_, by rw [Int.zero_add]; exact zD_at hz, ?_⟩
        walk_at "go"
        · refine ⟨_, _, _, rfl, Int.fmod_nonneg_of_pos _ (by decide), ?_⟩
          have h1 := Int.fmod_nonneg_of_pos (st * 599 + z.fmod 1000121 + 53 * (0 + ((i : Nat) : Int)) + 23) (show (0 : Int) < 2147483549 by decide)
          have h2 := Int.fmod_lt_of_pos (st * 599 + z.fmod 1000121 + 53 * (0 + ((i : Nat) : Int)) + 23) (show (0 : Int) < 2147483549 by decide)
          show ((st * 599 + z.fmod 1000121 + 53 * (0 + ((i : Nat) : Int)) + 23).fmod 2147483549).natAbs < 2 ^ 32
          omega
        · show (2147483549 : Int) ≠ 0
          decide
        · refine mul_fit (k := 10) (l := 10) (by decide) ?_ (by decide) (by decide)
          omega
        · show (1000121 : Int) ≠ 0
          decide
      · exact mul_fit (l := 10) hs2 (by decide) (by decide) (by decide)
    · rintro env ⟨st, o2, o3, rfl, hs1, hs2⟩
      have last : ∀ a : Int, 0 ≤ a → a.natAbs < 2 ^ 900 → Q (.own [.int a, .int st]) [.d (.list (zD zs))] := fun a h1 h2 => q _ ⟨a, st, rfl, h1, h2, hs1, hs2⟩
      walk_at "go"
      refine decI (fun h => ?_) (fun h => ?_)
      · have h : decide ((0 : Int) < ((zD zs).length : Nat)) = true := h
        have h := of_decide_eq_true h
        rw [e1] at h
        obtain ⟨z, hz, _⟩ := getAt (show 0 < zs.length by omega)
        walk_at "go"
        refine ⟨_, zD_at hz, ?_⟩
        walk_at "go"
        · refine decI (fun h => ?_) (fun h => ?_)
          · walk_at "wh"
            refine ⟨_, zD_at hz, ?_⟩
            have big : ∀ i j : Nat, i ≤ 4 → j ≤ 4 → IntMulOk (((10 : Int) ^ 63) ^ i) (((10 : Int) ^ 63) ^ j) := fun i j hi hj => by
              have e : ∀ k : Nat, k ≤ 4 → (((10 : Int) ^ 63) ^ k).natAbs < 2 ^ 900 := fun k hk => by
                have : k = 0 ∨ k = 1 ∨ k = 2 ∨ k = 3 ∨ k = 4 := by omega
                rcases this with rfl | rfl | rfl | rfl | rfl <;> decide +kernel
              exact mul_fit (e i hi) (e j hj) (by decide) (by decide)
            walk_at "go"
            · refine last _ (Int.fmod_nonneg_of_pos _ (by decide +kernel)) ?_
              have h1 := Int.fmod_nonneg_of_pos z (show (0 : Int) < 10 ^ 63 * 10 ^ 63 * 10 ^ 63 * 10 ^ 63 by decide +kernel)
              have h2 := Int.fmod_lt_of_pos z (show (0 : Int) < 10 ^ 63 * 10 ^ 63 * 10 ^ 63 * 10 ^ 63 by decide +kernel)
              have h3 : (10 : Int) ^ 63 * 10 ^ 63 * 10 ^ 63 * 10 ^ 63 ≤ 2 ^ 900 := by decide +kernel
              show (z.fmod (10 ^ 63 * 10 ^ 63 * 10 ^ 63 * 10 ^ 63)).natAbs < 2 ^ 900
              generalize z.fmod (10 ^ 63 * 10 ^ 63 * 10 ^ 63 * 10 ^ 63) = y at h1 h2
              have h4 : ((2 ^ 900 : Nat) : Int) = 2 ^ 900 := by decide +kernel
              have h5 : (y.natAbs : Int) < ((2 ^ 900 : Nat) : Int) := by
                rw [h4, Int.natAbs_of_nonneg h1]
                exact Int.lt_of_lt_of_le h2 h3
              exact Int.ofNat_lt.mp h5
            · exact (by decide : 2 ≤ sizeLine)
            · show (10 : Int) ^ 63 * 10 ^ 63 * 10 ^ 63 * 10 ^ 63 ≠ 0
              decide +kernel
            · have := big 3 1 (by decide) (by decide)
              exact this
            · exact ⟨by decide, by decide +kernel⟩
            · exact big 2 1 (by decide) (by decide)
            · exact ⟨by decide, by decide +kernel⟩
            · exact big 1 1 (by decide) (by decide)
            · exact ⟨by decide, by decide +kernel⟩
            · exact ⟨by decide, by decide +kernel⟩
          · walk_at "go"
            · exact last 0 (by decide) (by decide)
            · exact (by decide : 2 ≤ sizeLine)
        · exact ⟨by decide, by decide +kernel⟩
      · walk_at "go"
        · exact last 0 (by decide) (by decide)
        · exact (by decide : 2 ≤ sizeLine)
  · dsimp only
    split <;> omega
  · dsimp only
    split <;> omega
  · trivial
theorem f_law_pool {P : Program} {w : World} {K : Fg} {mg : Str → Option Value} {base : Heap} {f : Addr} {fd : FuncData} (g : Gs K mg) (F : Fun K "_law_pool" "_law_pool" s_law_pool f fd) : FnOk P w K mg base CX0 1 f fd ["script"] (SpOf K sp_law_pool) :=
  fn_ok F sc_law_pool [] (fun cdv A outer s H E hr => q_law_pool g cdv A outer s H E hr) (by walk_at "len") (by walk_at "keep") m_law_pool
theorem mono_law_pool : sp_law_pool.Mono := by walk_at "mono"

theorem f_law_draw {P : Program} {w : World} {K : Fg} {mg : Str → Option Value} {base : Heap} {f : Addr} {fd : FuncData} (g : Gs K mg) (F : Fun K "_law_draw" "_law_draw" s_law_draw f fd) : FnOk P w K mg base CX0 1 f fd ["pool", "many"] (SpOf K sp_law_draw) :=
  fn_ok F sc_law_draw [0] (fun cdv A outer s H E hr => q_law_draw g cdv A outer s H E hr) (by walk_at "len") (by walk_at "keep") m_law_draw
theorem mono_law_draw : sp_law_draw.Mono := by walk_at "mono"

theorem f_law_order {P : Program} {w : World} {K : Fg} {mg : Str → Option Value} {base : Heap} {f : Addr} {fd : FuncData} (g : Gs K mg) (h_law_draw : Has P w K mg base "_law_draw" ["pool", "many"] 1 sp_law_draw) (F : Fun K "_law_order" "_law_order" s_law_order f fd) : FnOk P w K mg base CX0 2 f fd ["pool", "many"] (SpOf K sp_law_order) :=
  fn_ok F sc_law_order [0] (fun cdv A outer s H E hr => q_law_order g h_law_draw cdv A outer s H E hr) (by walk_at "len") (by walk_at "keep") m_law_order
theorem mono_law_order : sp_law_order.Mono := by walk_at "mono"

theorem f_law_names {P : Program} {w : World} {K : Fg} {mg : Str → Option Value} {base : Heap} {f : Addr} {fd : FuncData} (g : Gs K mg) (h_law_draw : Has P w K mg base "_law_draw" ["pool", "many"] 1 sp_law_draw) (F : Fun K "_law_names" "_law_names" s_law_names f fd) : FnOk P w K mg base CX0 2 f fd ["pool", "many"] (SpOf K sp_law_names) :=
  fn_ok F sc_law_names [0] (fun cdv A outer s H E hr => q_law_names g h_law_draw cdv A outer s H E hr) (by walk_at "len") (by walk_at "keep") m_law_names
theorem mono_law_names : sp_law_names.Mono := by walk_at "mono"

theorem f_law_blanks {P : Program} {w : World} {K : Fg} {mg : Str → Option Value} {base : Heap} {f : Addr} {fd : FuncData} (g : Gs K mg) (h_law_draw : Has P w K mg base "_law_draw" ["pool", "many"] 1 sp_law_draw) (F : Fun K "_law_blanks" "_law_blanks" s_law_blanks f fd) : FnOk P w K mg base CX0 2 f fd ["pool", "levels", "part"] (SpOf K sp_law_blanks) :=
  fn_ok F sc_law_blanks [0] (fun cdv A outer s H E hr => q_law_blanks g h_law_draw cdv A outer s H E hr) (by walk_at "len") (by walk_at "keep") m_law_blanks
theorem mono_law_blanks : sp_law_blanks.Mono := by walk_at "mono"

theorem f_law_two {P : Program} {w : World} {K : Fg} {mg : Str → Option Value} {base : Heap} {f : Addr} {fd : FuncData} (g : Gs K mg) (h_law_draw : Has P w K mg base "_law_draw" ["pool", "many"] 1 sp_law_draw) (F : Fun K "_law_two" "_law_two" s_law_two f fd) : FnOk P w K mg base CX0 2 f fd ["pool", "levels"] (SpOf K sp_law_two) :=
  fn_ok F sc_law_two [0] (fun cdv A outer s H E hr => q_law_two g h_law_draw cdv A outer s H E hr) (by walk_at "len") (by walk_at "keep") m_law_two
theorem mono_law_two : sp_law_two.Mono := by walk_at "mono"

end K76
set_option Elab.async false
set_option linter.all false
set_option maxRecDepth 100000
set_option maxHeartbeats 1000000
set_option exponentiation.threshold 20000
set_option pp.deepTerms false
set_option pp.maxSteps 500
namespace K76
open PySem PySem.Spec PyProof.Rows L2 Pf
local macro_rules | `(tactic| walk_at "go") => `(tactic| (conv => whnf) <;> repeat ((first | refine atE rfl ?_ | refine andR ?_ ?_); (conv => whnf)))
local macro_rules | `(tactic| walk_at "wh") => `(tactic| conv => whnf)
local macro_rules | `(tactic| walk_at "len") => `(tactic| (intro os Q h; (repeat (obtain ⟨_, h⟩ := h)); subst_vars; rfl))
local macro_rules | `(tactic| walk_at "keep") => `(tactic| (intro os Q h; (repeat (obtain ⟨_, h⟩ := h)); subst_vars; simp [keepOk]))
local macro_rules | `(tactic| walk_at "mono") => `(tactic| (intro os k k' f; repeat (first | exact f _ _ | refine Exists.imp fun _ => ?_ | refine And.imp_right ?_ | refine forall_imp fun _ => ?_)))
/-! the law's comparison -/
def Nest : Nat → D → Prop
  | _, .int _ => True
  | _, .bool _ => True
  | d + 1, .tuple xs => xs.length ≤ 1000 ∧ ∀ x ∈ xs, Nest d x
  | _, _ => False
def spS : Nat → FSp
  | 0 => fun _ _ => False
  | d + 1 => fun os Q => ∃ x, os = [.d x, .d x] ∧ Nest d x ∧ Q (.d (.bool true)) os
abbrev sp_law_same : FSp := spS 4
theorem mono_S : ∀ d, (spS d).Mono
  | 0 => fun _ _ _ _ h => h.elim
  | d + 1 => fun os k k' f ⟨x, a, b, c⟩ => ⟨x, a, b, f _ _ c⟩
theorem mono_law_same : sp_law_same.Mono := mono_S 4
/-! ### _law_same -/
abbrev s_law_same : Stmt := topS 34
abbrev n_law_same : List Str := ["told", "due", "k"]
theorem sc_law_same : FnScope n_law_same ["told", "due"] (defScope s_law_same) := ⟨rfl, rfl, rfl, by decide +kernel, rfl, by decide +kernel, by decide +kernel⟩
def r_law_same (spc : FSp) : RS := (rSeq (rIfS (rCmp (dIsN false) (rN 1) (rP (rC .none))) (rRet (rO (rTV (rCmp (dIsN false) (rN 0) (rP (rC .none)))))) rNext)
  (rSeq (rIfS (rTb (rIsi isTuple (rN 1))) (rSeq (rIfS (rOr (rNot (rTb (rIsi isTuple (rN 0)))) (rCmp (dEq true) (rP (rD (rCB fLen (rACons (rN 0) rANil)))) (rP (rD (rCB fLen (rACons (rN 1) rANil)))))) (rRet (rO (rC (.bool false)))) rNext)
  (rSeq (rFor (rRng1 (rD (rCB fLen (rACons (rN 1) rANil)))) (rGn 2) (rIfS (rNot (rTb (rD (rCall spc (rACons (rP (rD (rOp dIx (rN 0) (rN 2)))) (rACons (rP (rD (rOp dIx (rN 1) (rN 2)))) rANil)))))) (rRet (rO (rC (.bool false)))) rNext))
  (rRet (rO (rC (.bool true)))))) rNext)
  (rSeq (rIfS (rTb (rIsi isStr (rN 1))) (rRet (rO (rAndV (rIsi isStr (rN 0)) (rTV (rCmp (dEq false) (rN 0) (rN 1)))))) rNext)
  (rSeq (rIfS (rTb (rIsi isBool (rN 1))) (rRet (rO (rAndV (rIsi isBool (rN 0)) (rTV (rCmp (dEq false) (rN 0) (rN 1)))))) rNext)
  (rRet (rO (rAndV (rIsi isInt (rN 0)) (rAndV (rNotV (rIsi isBool (rN 0))) (rTV (rCmp (dEq false) (rN 0) (rN 1)))))))))))
theorem q_law_same {P : Program} {w : World} {K : Fg} {mg : Str → Option Value} {base : Heap} {f : Addr} {k0 : Nat} {spc : FSp} (g : Gs K mg) (hself : Has P w K mg base "_law_same" ["told", "due"] k0 spc) (cdv : Value) (A : Around) (outer : List PySem.Env) (s : Shared) (H : Hp) (E : XK) (hr : Room k0 (A.deeper (envOfC "_law_same" (defScope s_law_same) s.heap.objs.size f cdv))) :
    QSs (cxOf CX0 P w K mg base n_law_same "_law_same" (defScope s_law_same) f cdv A outer s H E).nox [] (defBody s_law_same) (r_law_same spc) :=
  (qss_cons (qs_if (qt_isN (qp_var 1) (qv_non).p) (qss_one (qs_ret (QV.o (qv_isN (qp_var 0) (qv_non).p)))) qss_nil)
  (qss_cons (qs_if (qt_call (qv_isi_tuple g.isinstance g.tuple (qp_var 1))) (qss_cons (qs_if (QW.t (qw_or (qt_not (qt_call (qv_isi_tuple g.isinstance g.tuple (qp_var 0)))) (qw_or1 (qt_ne hr.units ((QE.v (qe_len g.len (qa_cons (qp_var 0) qa_nil)))).p ((QE.v (qe_len g.len (qa_cons (qp_var 1) qa_nil)))).p)))) (qss_one (qs_ret (QV.o qv_bl))) qss_nil)
  (qss_cons (qs_for PassesOwn.never rfl (qf_range1 g.range (QE.v (qe_len g.len (qa_cons (qp_var 1) qa_nil)))) (qg_name 2 sc_law_same.nd) (qss_one (qs_if (qt_not (qt_call (QE.v (qe_call hself hr (qa_cons ((qv_ix (qp_var 0) (qp_var 2))).p (qa_cons ((qv_ix (qp_var 1) (qp_var 2))).p qa_nil)))))) (qss_one (qs_ret (QV.o qv_bl))) qss_nil)))
  (qss_one (qs_ret (QV.o qv_bl))))) qss_nil)
  (qss_cons (qs_if (qt_call (qv_isi_str g.isinstance g.str (qp_var 1))) (qss_one (qs_ret (QV.o (qv_and (qv_isi_str g.isinstance g.str (qp_var 0)) (qv_one (qv_eq hr.units (qp_var 0) (qp_var 1))))))) qss_nil)
  (qss_cons (qs_if (qt_call (qv_isi_bool g.isinstance g.bool (qp_var 1))) (qss_one (qs_ret (QV.o (qv_and (qv_isi_bool g.isinstance g.bool (qp_var 0)) (qv_one (qv_eq hr.units (qp_var 0) (qp_var 1))))))) qss_nil)
  (qss_one (qs_ret (QV.o (qv_and (qv_isi_int g.isinstance g.int (qp_var 0)) (qv_and (qv_not (qv_isi_bool g.isinstance g.bool (qp_var 0))) (qv_one (qv_eq hr.units (qp_var 0) (qp_var 1))))))))))))

theorem m_law_same (d : Nat) (os : List O) (Q : O → List O → Prop) (h : spS (d + 1) os Q) : Ends (r_law_same (spS d)) n_law_same os Q := by
  obtain ⟨x, rfl, hn, q⟩ := h
  cases x with
  | int i =>
    walk_at "go"
    rw [if_neg Bool.false_ne_true, decide_eq_true rfl]
    exact q
  | bool b =>
    cases b
    all_goals
      walk_at "go"
      · exact q
      · rfl
      · rfl
  | tuple xs =>
    cases d with
    | zero => exact hn.elim
    | succ d =>
      obtain ⟨hl, hx⟩ := hn
      walk_at "go"
      refine decI (fun h => ?_) (fun h => ?_)
      · have h : (!decide (((xs.length : Nat) : Int) = ((xs.length : Nat) : Int))) = true := h
        simp at h
      walk_at "go"
      · refine ⟨fun i e => ∃ o2, e = [some (.d (.tuple xs)), some (.d (.tuple xs)), o2], ⟨_, rfl⟩, ?_, ?_⟩
        · rintro i x e hxi ⟨o2, rfl⟩
          obtain ⟨ex, hi⟩ := rngD_at hxi
          subst ex
          rw [Int.zero_add]
          obtain ⟨y, hy, hym⟩ := getAt (show i < xs.length by omega)
          walk_at "wh"
          refine ⟨_, atI_nat hy, ?_⟩
          walk_at "wh"
          refine ⟨_, atI_nat hy, ?_⟩
          walk_at "wh"
          refine ⟨y, rfl, hx y hym, ?_⟩
          walk_at "wh"
          exact ⟨_, rfl⟩
        · rintro e ⟨o2, rfl⟩
          walk_at "wh"
          exact q
      · omega
      · omega
  | _ => cases d <;> exact hn.elim
theorem fn_never {P : Program} {w : World} {K : Fg} {mg : Str → Option Value} {base : Heap} {f : Addr} {fd : FuncData} {ps : List Str} (k : Nat) : FnOk P w K mg base CX0 k f fd ps (SpOf K (spS 0)) := by
  constructor
  all_goals
    intros
    rename_i h
    obtain ⟨_, _, _, _, h⟩ := h
    exact h.elim
theorem f_law_same_at {P : Program} {w : World} {K : Fg} {mg : Str → Option Value} {base : Heap} {f : Addr} {fd : FuncData} (g : Gs K mg) (hmg : mg "_law_same" = some (.ref f)) (hk : PySem.W.keepIn K (.ref f) = true) (hb : Binds K fd ["told", "due"] []) (F : Fun K "_law_same" "_law_same" s_law_same f fd) : ∀ d, FnOk P w K mg base CX0 (d + 1) f fd ["told", "due"] (SpOf K (spS (d + 1)))
  | 0 => fn_ok F sc_law_same [] (fun cdv A outer s H E hr => q_law_same (k0 := 0) (spc := spS 0) g ⟨⟨f, fd, hmg, hk, hb, fn_never _⟩, mono_S 0⟩ cdv A outer s H E hr) (by walk_at "len") (by walk_at "keep") (m_law_same 0)
  | d + 1 => fn_ok F sc_law_same [] (fun cdv A outer s H E hr => q_law_same (k0 := d + 1) (spc := spS (d + 1)) g ⟨⟨f, fd, hmg, hk, hb, f_law_same_at g hmg hk hb F d⟩, mono_S (d + 1)⟩ cdv A outer s H E hr) (by walk_at "len") (by walk_at "keep") (m_law_same (d + 1))

end K76
set_option Elab.async false
set_option linter.all false
set_option maxRecDepth 100000
set_option maxHeartbeats 1000000
set_option exponentiation.threshold 20000
set_option pp.deepTerms false
set_option pp.maxSteps 500
namespace K76
open PySem PySem.Spec PyProof.Rows L2 Pf
local macro_rules | `(tactic| walk_at "go") => `(tactic| (conv => whnf) <;> repeat ((first | refine atE rfl ?_ | refine andR ?_ ?_); (conv => whnf)))
local macro_rules | `(tactic| walk_at "wh") => `(tactic| conv => whnf)
local macro_rules | `(tactic| walk_at "len") => `(tactic| (intro os Q h; (repeat (obtain ⟨_, h⟩ := h)); subst_vars; rfl))
local macro_rules | `(tactic| walk_at "keep") => `(tactic| (intro os Q h; (repeat (obtain ⟨_, h⟩ := h)); subst_vars; simp [keepOk]))
local macro_rules | `(tactic| walk_at "mono") => `(tactic| (intro os k k' f; repeat (first | exact f _ _ | refine Exists.imp fun _ => ?_ | refine And.imp_right ?_ | refine forall_imp fun _ => ?_)))
/-! the law's counts -/
open Fl (Net)
def sp_law_count : FSp := fun os Q => ∃ (ns : List Str) (L : List Ln) (bl ms : List Nat) (mD : D), os = [.d (lvD ns L), .d (natsD bl), .d mD] ∧ (mD = .list (natD ms) ∨ mD = .tuple (natD ms)) ∧ L.length ≤ 60 ∧ Q (.d (.int ((netOf L bl).cut (inS ms) : Nat))) os
def sp_law_is_cut : FSp := fun os Q => ∃ (ns : List Str) (L : List Ln) (b e : Nat) (ms : List Nat), os = [.d (lvD ns L), .d (.int (b : Nat)), .d (.int (e : Nat)), .d (natsD ms)] ∧ ms.Pairwise (· < ·) ∧ (∀ x ∈ ms, x < ns.length) ∧ ns.length ≤ 100 ∧ Fl.Sep b e (inS ms) ∧ Q (.d (.bool true)) os
def sp_law_least : FSp := fun os Q => ∃ (ns : List Str) (L : List Ln) (bl : List Nat) (b e : Nat), os = [.d (lvD ns L), .d (natsD bl), .d (.int (b : Nat)), .d (.int (e : Nat))] ∧ L.length ≤ 60 ∧ ns.length ≤ 8 ∧ (∀ l ∈ L, l.2.1 < ns.length ∧ l.2.2 < ns.length) ∧ b < ns.length ∧ e < ns.length ∧ b ≠ e ∧ ∀ c : Nat, IsMin (netOf L bl) b e c → Q (.d (.int (c : Nat))) os
/-! ### _law_count -/
abbrev s_law_count : Stmt := topS 43
abbrev n_law_count : List Str := ["levels", "blanks", "marks", "k"]
theorem sc_law_count : FnScope n_law_count ["levels", "blanks", "marks"] (defScope s_law_count) := ⟨rfl, rfl, rfl, by decide +kernel, rfl, by decide +kernel, by decide +kernel⟩
def r_law_count : RS := (rRet (rCB fLen (rACons (rP (rD (rLc (rRng1 (rD (rCB fLen (rACons (rP (rD (rOp dIx (rN 0) (rP (rC (.int 1)))))) rANil)))) (rGn 3) (rAnd (rCmp (dIn true) (rN 3) (rN 1)) (rCmp (dEq true) (rP (rTV (rCmp (dIn false) (rP (rD (rOp dIx (rP (rD (rOp dIx (rP (rD (rOp dIx (rN 0) (rP (rC (.int 1)))))) (rN 3)))) (rP (rC (.int 1)))))) (rN 2)))) (rP (rTV (rCmp (dIn false) (rP (rD (rOp dIx (rP (rD (rOp dIx (rP (rD (rOp dIx (rN 0) (rP (rC (.int 1)))))) (rN 3)))) (rP (rC (.int 2)))))) (rN 2)))))) (rVar 3) [3]))) rANil)))
theorem q_law_count {P : Program} {w : World} {K : Fg} {mg : Str → Option Value} {base : Heap} {f : Addr} (g : Gs K mg) (cdv : Value) (A : Around) (outer : List PySem.Env) (s : Shared) (H : Hp) (E : XK) (hr : Room 0 (A.deeper (envOfC "_law_count" (defScope s_law_count) s.heap.objs.size f cdv))) :
    QSs (cxOf CX0 P w K mg base n_law_count "_law_count" (defScope s_law_count) f cdv A outer s H E).nox [] (defBody s_law_count) r_law_count :=
  (qss_one (qs_ret (qe_len g.len (qa_cons ((QE.v (qe_lc (own := [("k", 3)]) rfl sc_law_count.nd (qf_range1 g.range (QE.v (qe_len g.len (qa_cons ((qv_ix (qp_var 0) (qv_int).p)).p qa_nil)))) (blkOk_by (by rfl)) (fun _ _ _ _ _ => (qg_name 3 sc_law_count.nd)) (fun _ _ _ _ _ => (qts_one (QW.t (qw_and (qt_notin (qp_var 3) (qp_var 1)) (qw_and1 (qt_ne hr.units ((qv_in ((qv_ix ((qv_ix ((qv_ix (qp_var 0) (qv_int).p)).p (qp_var 3))).p (qv_int).p)).p (qp_var 2))).p ((qv_in ((qv_ix ((qv_ix ((qv_ix (qp_var 0) (qv_int).p)).p (qp_var 3))).p (qv_int).p)).p (qp_var 2))).p)))))) (fun _ _ _ _ _ => (qv_var 3))))).p qa_nil))))

/-! ### _law_is_cut -/
abbrev s_law_is_cut : Stmt := topS 49
abbrev n_law_is_cut : List Str := ["levels", "mark", "other", "thing", "one", "k"]
theorem sc_law_is_cut : FnScope n_law_is_cut ["levels", "mark", "other", "thing"] (defScope s_law_is_cut) := ⟨rfl, rfl, rfl, by decide +kernel, rfl, by decide +kernel, by decide +kernel⟩
def r_law_is_cut : RS := (rSeq (rIfS (rOr (rNot (rTb (rIsi isTuple (rN 3)))) (rCmp bGt (rP (rD (rCB fLen (rACons (rP (rD (rLc (rFs (rVar 3)) (rGn 4) (rOr (rNot (rTb (rIsi isInt (rN 4)))) (rTb (rIsi isBool (rN 4)))) (rVar 4) [4]))) rANil)))) (rP (rC (.int 0))))) (rRet (rO (rC (.bool false)))) rNext)
  (rSeq (rIfS (rOr (rCmp bGt (rP (rD (rCB fLen (rACons (rP (rD (rLc (rRng2 (rC (.int 1)) (rD (rCB fLen (rACons (rN 3) rANil)))) (rGn 5) (rCmp bGe (rP (rD (rOp dIx (rN 3) (rP (rD (rOp bSub (rN 5) (rP (rC (.int 1))))))))) (rP (rD (rOp dIx (rN 3) (rN 5))))) (rVar 5) [5]))) rANil)))) (rP (rC (.int 0)))) (rCmp bGt (rP (rD (rCB fLen (rACons (rP (rD (rLc (rFs (rVar 3)) (rGn 4) (rOr (rCmp bLt (rN 4) (rP (rC (.int 0)))) (rCmp bGe (rN 4) (rP (rD (rCB fLen (rACons (rP (rD (rOp dIx (rN 0) (rP (rC (.int 0)))))) rANil)))))) (rVar 4) [4]))) rANil)))) (rP (rC (.int 0))))) (rRet (rO (rC (.bool false)))) rNext)
  (rRet (rO (rAndV (rTV (rCmp (dIn false) (rN 1) (rN 3))) (rTV (rCmp (dIn true) (rN 2) (rN 3))))))))
theorem q_law_is_cut {P : Program} {w : World} {K : Fg} {mg : Str → Option Value} {base : Heap} {f : Addr} (g : Gs K mg) (cdv : Value) (A : Around) (outer : List PySem.Env) (s : Shared) (H : Hp) (E : XK) (hr : Room 0 (A.deeper (envOfC "_law_is_cut" (defScope s_law_is_cut) s.heap.objs.size f cdv))) :
    QSs (cxOf CX0 P w K mg base n_law_is_cut "_law_is_cut" (defScope s_law_is_cut) f cdv A outer s H E).nox [] (defBody s_law_is_cut) r_law_is_cut :=
  (qss_cons (qs_if (QW.t (qw_or (qt_not (qt_call (qv_isi_tuple g.isinstance g.tuple (qp_var 3)))) (qw_or1 (qt_gt ((QE.v (qe_len g.len (qa_cons ((QE.v (qe_lc (own := [("one", 4)]) rfl sc_law_is_cut.nd (qf_seq (qv_var 3)) (blkOk_by (by rfl)) (fun _ _ _ _ _ => (qg_name 4 sc_law_is_cut.nd)) (fun _ _ _ _ _ => (qts_one (QW.t (qw_or (qt_not (qt_call (qv_isi_int g.isinstance g.int (qp_var 4)))) (qw_or1 (qt_call (qv_isi_bool g.isinstance g.bool (qp_var 4)))))))) (fun _ _ _ _ _ => (qv_var 4))))).p qa_nil)))).p (qv_int).p)))) (qss_one (qs_ret (QV.o qv_bl))) qss_nil)
  (qss_cons (qs_if (QW.t (qw_or (qt_gt ((QE.v (qe_len g.len (qa_cons ((QE.v (qe_lc (own := [("k", 5)]) rfl sc_law_is_cut.nd (qf_range2 g.range qv_int (QE.v (qe_len g.len (qa_cons (qp_var 3) qa_nil)))) (blkOk_by (by rfl)) (fun _ _ _ _ _ => (qg_name 5 sc_law_is_cut.nd)) (fun _ _ _ _ _ => (qts_one (qt_ge ((qv_ix (qp_var 3) ((QE.v (qe_sub (qp_var 5) (qv_int).p))).p)).p ((qv_ix (qp_var 3) (qp_var 5))).p))) (fun _ _ _ _ _ => (qv_var 5))))).p qa_nil)))).p (qv_int).p) (qw_or1 (qt_gt ((QE.v (qe_len g.len (qa_cons ((QE.v (qe_lc (own := [("one", 4)]) rfl sc_law_is_cut.nd (qf_seq (qv_var 3)) (blkOk_by (by rfl)) (fun _ _ _ _ _ => (qg_name 4 sc_law_is_cut.nd)) (fun _ _ _ _ _ => (qts_one (QW.t (qw_or (qt_lt (qp_var 4) (qv_int).p) (qw_or1 (qt_ge (qp_var 4) ((QE.v (qe_len g.len (qa_cons ((qv_ix (qp_var 0) (qv_int).p)).p qa_nil)))).p)))))) (fun _ _ _ _ _ => (qv_var 4))))).p qa_nil)))).p (qv_int).p)))) (qss_one (qs_ret (QV.o qv_bl))) qss_nil)
  (qss_one (qs_ret (QV.o (qv_and (qv_in (qp_var 1) (qp_var 3)) (qv_one (qv_notin (qp_var 2) (qp_var 3)))))))))

/-! ### _law_least -/
abbrev s_law_least : Stmt := topS 44
abbrev n_law_least : List Str := ["levels", "blanks", "mark", "other", "sets", "one", "some"]
theorem sc_law_least : FnScope n_law_least ["levels", "blanks", "mark", "other"] (defScope s_law_least) := ⟨rfl, rfl, rfl, by decide +kernel, rfl, by decide +kernel, by decide +kernel⟩
def r_law_least : RS := (rSeq (rSet 4 (rLst (rCons (rD (rLst (rCons (rVar 2) rNil))) rNil)))
  (rSeq (rFor (rRng1 (rD (rCB fLen (rACons (rP (rD (rOp dIx (rN 0) (rP (rC (.int 0)))))) rANil)))) (rGn 5) (rIfS (rCmp (dIn true) (rN 5) (rP (rTup (rCons (rVar 2) (rCons (rVar 3) rNil))))) (rSet 4 (rOp dAdd (rN 4) (rP (rD (rLc (rFs (rVar 4)) (rGn 6) rYes (rD (rOp dAdd (rN 6) (rP (rD (rLst (rCons (rVar 5) rNil)))))) [6]))))) rNext))
  (rRet (rCB fMinL (rACons (rP (rD (rLc (rFs (rVar 4)) (rGn 6) rYes (rD (rCall sp_law_count (rACons (rN 0) (rACons (rN 1) (rACons (rN 6) rANil))))) [6]))) rANil)))))
theorem q_law_least {P : Program} {w : World} {K : Fg} {mg : Str → Option Value} {base : Heap} {f : Addr} (g : Gs K mg) (h_law_count : Has P w K mg base "_law_count" ["levels", "blanks", "marks"] 1 sp_law_count) (cdv : Value) (A : Around) (outer : List PySem.Env) (s : Shared) (H : Hp) (E : XK) (hr : Room 1 (A.deeper (envOfC "_law_least" (defScope s_law_least) s.heap.objs.size f cdv))) :
    QSs (cxOf CX0 P w K mg base n_law_least "_law_least" (defScope s_law_least) f cdv A outer s H E).nox [] (defBody s_law_least) r_law_least :=
  (qss_cons (qs_set 4 sc_law_least.nd (qe_lst (ql_cons (QE.v (qe_lst (ql_cons (qv_var 2) ql_nil))) ql_nil)))
  (qss_cons (qs_for PassesOwn.never rfl (qf_range1 g.range (QE.v (qe_len g.len (qa_cons ((qv_ix (qp_var 0) (qv_int).p)).p qa_nil)))) (qg_name 5 sc_law_least.nd) (qss_one (qs_if (qt_notin (qp_var 5) ((qv_tup (ql_cons (qv_var 2) (ql_cons (qv_var 3) ql_nil)))).p) (qss_one (qs_set 4 sc_law_least.nd (qe_add (qp_var 4) ((QE.v (qe_lc (own := [("some", 6)]) rfl sc_law_least.nd (qf_seq (qv_var 4)) (blkOk_by (by rfl)) (fun _ _ _ _ _ => (qg_name 6 sc_law_least.nd)) (fun _ _ _ _ _ => qts_nil) (fun _ _ _ _ _ => (QE.v (qe_add (qp_var 6) ((QE.v (qe_lst (ql_cons (qv_var 5) ql_nil)))).p)))))).p))) qss_nil)))
  (qss_one (qs_ret (qe_min rfl g.min (qa_cons ((QE.v (qe_lc (own := [("some", 6)]) rfl sc_law_least.nd (qf_seq (qv_var 4)) (blkOk_by (by rfl)) (fun _ _ _ _ _ => (qg_name 6 sc_law_least.nd)) (fun _ _ _ _ _ => qts_nil) (fun _ _ _ _ _ => (QE.v (qe_call h_law_count (hr.mono (by decide)) (qa_cons (qp_var 0) (qa_cons (qp_var 1) (qa_cons (qp_var 6) qa_nil))))))))).p qa_nil))))))

theorem flt_false {α : Type} (l : List α) : l.filter (fun _ => false) = [] := by simp
theorem nodup_sorted {ms : List Nat} (h : ms.Pairwise (· < ·)) : ms.Nodup := h.imp fun {a b} hab => by omega
theorem m_law_count (os : List O) (Q : O → List O → Prop) (h : sp_law_count os Q) : Ends r_law_count n_law_count os Q := by
  obtain ⟨ns, L, bl, ms, mD, rfl, hm, hl, q⟩ := h
  have e1 : (L.map lineD).length = L.length := List.length_map _
  walk_at "go"
  · refine ⟨fun i acc env => env = [some (.d (lvD ns L)), some (.d (natsD bl)), some (.d mD), none] ∧ acc = natD ((List.range i).filter ((netOf L bl).cross (inS ms))), ⟨rfl, rfl⟩, ?_, ?_⟩
    · rintro i x acc env hx ⟨rfl, rfl⟩
      obtain ⟨ex, hi⟩ := rngD_at hx
      rw [e1] at hi
      subst ex
      rw [Int.zero_add]
      obtain ⟨l, hli, _⟩ := getAt (show i < L.length by omega)
      have hsz : (natD ((List.range i).filter ((netOf L bl).cross (inS ms)))).length < sizeLine := by
        rw [natD_len, sizeLine_eq]
        have := List.length_filter_le ((netOf L bl).cross (inS ms)) (List.range i)
        rw [List.length_range] at this
        omega
      have hc : (netOf L bl).cross (inS ms) i = (!bl.contains i && (inS ms l.2.1 != inS ms l.2.2)) := by
        unfold Fl.Net.cross
        rw [net_t hli, net_h hli]
        rfl
      have hin : ∀ a : Nat, inD (.int (a : Nat)) (natD ms) = inS ms a := fun a => inD_nat
      walk_at "go"
      · refine decI (fun h => ?_) (fun h => ?_)
        · have h : (!inD (.int (i : Nat)) (natD bl)) = true := h
          rw [inD_nat] at h
          have hnb : bl.contains i = false := by simpa using h
          have fin : ∀ v : Bool, v = (inS ms l.2.1 != inS ms l.2.2) → natD ((List.range (i + 1)).filter ((netOf L bl).cross (inS ms))) = if v = true then natD ((List.range i).filter ((netOf L bl).cross (inS ms))) ++ [.int (i : Nat)] else natD ((List.range i).filter ((netOf L bl).cross (inS ms))) := fun v hv => by
            rw [List.range_succ, List.filter_append]
            cases v with
            | true =>
              rw [if_pos rfl, List.filter_cons_of_pos (by rw [hc, hnb, ← hv]; rfl), List.filter_nil, natD_snoc]
            | false =>
              rw [if_neg (by decide), List.filter_cons_of_neg (by rw [hc, hnb, ← hv]; decide), List.filter_nil, List.append_nil]
          have ne : ∀ x y : Bool, (!PyData.eqv (.bool x) (.bool y)) = (x != y) := fun x y => by cases x <;> cases y <;> rfl
          rcases hm with rfl | rfl
          all_goals
            walk_at "wh"
            refine ⟨_, rfl, ?_⟩
            walk_at "wh"
            refine ⟨_, atI_map hli, ?_⟩
            walk_at "wh"
            refine ⟨_, rfl, ?_⟩
            walk_at "wh"
            refine ⟨rfl, flat_nat ms, ?_⟩
            walk_at "wh"
            refine ⟨_, rfl, ?_⟩
            walk_at "wh"
            refine ⟨_, atI_map hli, ?_⟩
            walk_at "wh"
            refine ⟨_, rfl, ?_⟩
            walk_at "wh"
            refine ⟨rfl, flat_nat ms, ?_⟩
            walk_at "wh"
            refine ⟨rfl, rfl, ?_⟩
            walk_at "wh"
            refine decI (fun h2 => ?_) (fun h2 => ?_)
            · have h2 : (!PyData.eqv (.bool (inD (.int (l.2.1 : Nat)) (natD ms))) (.bool (inD (.int (l.2.2 : Nat)) (natD ms)))) = true := h2
              rw [hin, hin, ne] at h2
              walk_at "wh"
              exact ⟨hsz, rfl, by rw [fin true h2.symm, if_pos rfl]⟩
            · have h2 : ¬ (!PyData.eqv (.bool (inD (.int (l.2.1 : Nat)) (natD ms))) (.bool (inD (.int (l.2.2 : Nat)) (natD ms)))) = true := h2
              rw [hin, hin, ne, Bool.not_eq_true] at h2
              walk_at "wh"
              exact ⟨rfl, by rw [fin false h2.symm, if_neg (by decide)]⟩
        · have h : ¬ (!inD (.int (i : Nat)) (natD bl)) = true := h
          rw [inD_nat] at h
          walk_at "wh"
          refine ⟨rfl, ?_⟩
          rw [List.range_succ, List.filter_append, List.filter_cons_of_neg (by rw [hc]; simp at h ⊢; intro z; exact absurd h z)]
          simp
      · exact flat_nat bl
      · rfl
    · rintro acc env ⟨rfl, rfl⟩
      rw [rngD_len, e1]
      walk_at "wh"
      have e2 : (natD ((List.range (((L.length : Nat) : Int) - 0).toNat).filter ((netOf L bl).cross (inS ms)))).length = (netOf L bl).cut (inS ms) := by
        rw [natD_len, show (((L.length : Nat) : Int) - 0).toNat = L.length by omega]
        rfl
      rw [← e2] at q
      exact q
  · rw [e1]; omega
  · rw [e1]; omega
theorem natD_sorted {ms : List Nat} (h : ms.Pairwise (· < ·)) {k x y : Nat} (hx : ms[k]? = some x) (hy : ms[k + 1]? = some y) : x < y := by
  have hl := (List.getElem?_eq_some_iff.mp hy)
  have hk := (List.getElem?_eq_some_iff.mp hx)
  have := List.pairwise_iff_getElem.mp h k (k + 1) hk.1 hl.1 (by omega)
  rw [hk.2, hl.2] at this
  exact this
theorem m_law_is_cut (os : List O) (Q : O → List O → Prop) (h : sp_law_is_cut os Q) : Ends r_law_is_cut n_law_is_cut os Q := by
  obtain ⟨ns, L, b, e, ms, rfl, hs, hlt, hn, hsep, q⟩ := h
  have hl := nodup_lt _ _ (nodup_sorted hs) hlt
  walk_at "go"
  refine lc_filterE (p := fun _ => false) (g := id) (fun env => env = [some (.d (lvD ns L)), some (.d (.int (b : Nat))), some (.d (.int (e : Nat))), some (.d (natsD ms)), none, none]) rfl (by rw [natD_len]; omega) (fun i x k1 k2 e' he' hx ht hf => ?_) ?_
  · subst he'
    obtain ⟨z, hz, rfl⟩ := get_map hx
    walk_at "wh"
    exact hf rfl _ rfl
  rintro env rfl
  rw [flt_false]
  walk_at "go"
  · refine lc_filterE (p := fun _ => false) (g := id) (fun env => env = [some (.d (lvD ns L)), some (.d (.int (b : Nat))), some (.d (.int (e : Nat))), some (.d (natsD ms)), none, none]) rfl (by rw [rngD_len, natD_len]; omega) (fun i x k1 k2 e' he' hx ht hf => ?_) ?_
    · subst he'
      obtain ⟨ex, hi⟩ := rngD_at hx
      rw [natD_len] at hi
      subst ex
      obtain ⟨x0, hx0, _⟩ := getAt (show i < ms.length by omega)
      obtain ⟨x1, hx1, _⟩ := getAt (show i + 1 < ms.length by omega)
      have hlt2 := natD_sorted hs hx0 hx1
      walk_at "wh"
      refine ⟨_, (by rw [show (1 : Int) + ((i : Nat) : Int) - 1 = (i : Nat) by omega]; exact atI_map hx0 : atI (natD ms) ((1 : Int) + ((i : Nat) : Int) - 1) = _), ?_⟩
      walk_at "wh"
      refine ⟨_, (by rw [show (1 : Int) + ((i : Nat) : Int) = ((i + 1 : Nat) : Int) by omega]; exact atI_map hx1 : atI (natD ms) ((1 : Int) + ((i : Nat) : Int)) = _), ?_⟩
      walk_at "wh"
      refine decI (fun h => ?_) (fun h => ?_)
      · have h : decide (((x1 : Nat) : Int) ≤ ((x0 : Nat) : Int)) = true := h
        have h := of_decide_eq_true h
        omega
      · walk_at "wh"
        exact hf rfl _ rfl
    rintro env rfl
    rw [flt_false]
    walk_at "go"
    refine lc_filterE (p := fun _ => false) (g := id) (fun env => env = [some (.d (lvD ns L)), some (.d (.int (b : Nat))), some (.d (.int (e : Nat))), some (.d (natsD ms)), none, none]) rfl (by rw [natD_len]; omega) (fun i x k1 k2 e' he' hx ht hf => ?_) ?_
    · subst he'
      obtain ⟨z, hz, rfl⟩ := get_map hx
      have hzn := hlt z (List.mem_of_getElem? hz)
      walk_at "wh"
      refine ⟨_, rfl, ?_⟩
      walk_at "wh"
      refine decI (fun h => ?_) (fun h => ?_)
      · have h : decide (((ns.map PyData.str).length : Int) ≤ ((z : Nat) : Int)) = true := h
        have h := of_decide_eq_true h
        rw [List.length_map] at h
        omega
      · walk_at "wh"
        exact hf rfl _ rfl
    rintro env rfl
    rw [flt_false]
    walk_at "go"
    · have h1 : inD (.int (b : Nat)) (natD ms) = true := by rw [inD_nat]; exact hsep.1
      have h2 : inD (.int (e : Nat)) (natD ms) = false := by rw [inD_nat]; exact hsep.2
      rw [h1]
      walk_at "go"
      · have e3 : (!inD (.int (e : Nat)) (natD ms)) = true := by rw [h2]; rfl
        rw [← e3] at q
        exact q
      · exact flat_nat ms
      · rfl
    · exact flat_nat ms
    · rfl
  · rw [natD_len]; omega
theorem cut_congr {L : List Ln} {bl : List Nat} {n : Nat} (hL : ∀ l ∈ L, l.2.1 < n ∧ l.2.2 < n) {S S' : Nat → Bool} (h : ∀ v, v < n → S v = S' v) : (netOf L bl).cut S = (netOf L bl).cut S' := by
  unfold Fl.Net.cut
  congr 1
  refine List.filter_congr fun k hk => ?_
  have hk : k < L.length := List.mem_range.mp hk
  obtain ⟨l, hl, hm⟩ := getAt hk
  have := hL l hm
  unfold Fl.Net.cross
  rw [net_t hl, net_h hl, h _ this.1, h _ this.2]
structure Sets (n b e i : Nat) (ss : List (List Nat)) : Prop where
  few : ss.length ≤ 2 ^ i
  len : ∀ s ∈ ss, s.length ≤ 1 + i
  hb : ∀ s ∈ ss, b ∈ s
  he : ∀ s ∈ ss, e ∉ s
  lt : ∀ s ∈ ss, ∀ v ∈ s, v < i ∨ v = b
  all : ∀ T : Nat → Bool, T b = true → T e = false → ∃ s ∈ ss, ∀ v, v < i → inS s v = T v
theorem Sets.skip {n b e i : Nat} {ss : List (List Nat)} (h : Sets n b e i ss) (hi : i = b ∨ i = e) : Sets n b e (i + 1) ss := by
  refine ⟨Nat.le_trans h.few (Nat.pow_le_pow_right (by decide) (by omega)), fun s hs => by have := h.len s hs; omega, h.hb, h.he, fun s hs v hv => by have := h.lt s hs v hv; omega, fun T h1 h2 => ?_⟩
  obtain ⟨s, hs, ha⟩ := h.all T h1 h2
  refine ⟨s, hs, fun v hv => ?_⟩
  by_cases q : v = i
  · subst q
    rcases hi with rfl | rfl
    · rw [h1]
      exact List.contains_iff_mem.mpr (h.hb s hs)
    · rw [h2]
      rw [← Bool.not_eq_true]
      exact fun z => h.he s hs (List.contains_iff_mem.mp z)
  · exact ha v (by omega)
theorem Sets.next {n b e i : Nat} {ss : List (List Nat)} (h : Sets n b e i ss) (hi : i ≠ b) (hi2 : i ≠ e) : Sets n b e (i + 1) (ss ++ ss.map (· ++ [i])) := by
  have mem : ∀ s, s ∈ ss ++ ss.map (· ++ [i]) → ∃ r ∈ ss, s = r ∨ s = r ++ [i] := fun s hs => by
    rcases List.mem_append.mp hs with z | z
    · exact ⟨s, z, .inl rfl⟩
    · obtain ⟨r, hr, rfl⟩ := List.mem_map.mp z
      exact ⟨r, hr, .inr rfl⟩
  refine ⟨?_, fun s hs => ?_, fun s hs => ?_, fun s hs => ?_, fun s hs v hv => ?_, fun T h1 h2 => ?_⟩
  · rw [List.length_append, List.length_map, Nat.pow_succ]
    have := h.few
    omega
  · obtain ⟨r, hr, rfl | rfl⟩ := mem s hs
    · have := h.len _ hr; omega
    · rw [List.length_append, List.length_singleton]
      have := h.len _ hr; omega
  · obtain ⟨r, hr, rfl | rfl⟩ := mem s hs
    · exact h.hb _ hr
    · exact List.mem_append_left _ (h.hb _ hr)
  · obtain ⟨r, hr, rfl | rfl⟩ := mem s hs
    · exact h.he _ hr
    · rw [List.mem_append, List.mem_singleton]
      exact fun z => z.elim (h.he _ hr) fun z => hi2 z.symm
  · obtain ⟨r, hr, rfl | rfl⟩ := mem s hs
    · have := h.lt _ hr v hv; omega
    · rw [List.mem_append, List.mem_singleton] at hv
      rcases hv with hv | hv
      · have := h.lt _ hr v hv; omega
      · omega
  · obtain ⟨s, hs, ha⟩ := h.all T h1 h2
    have hout : i ∉ s := fun z => by have := h.lt s hs i z; omega
    cases hT : T i with
    | false =>
      refine ⟨s, List.mem_append_left _ hs, fun v hv => ?_⟩
      by_cases q : v = i
      · subst q
        rw [hT, ← Bool.not_eq_true]
        exact fun z => hout (List.contains_iff_mem.mp z)
      · exact ha v (by omega)
    | true =>
      refine ⟨s ++ [i], List.mem_append_right _ (List.mem_map.mpr ⟨s, hs, rfl⟩), fun v hv => ?_⟩
      by_cases q : v = i
      · subst q
        rw [hT]
        exact List.contains_iff_mem.mpr (by simp)
      · rw [← ha v (by omega)]
        unfold inS
        rw [Bool.eq_iff_iff, List.contains_iff_mem, List.contains_iff_mem, List.mem_append, List.mem_singleton]
        exact ⟨fun z => z.resolve_right q, .inl⟩
theorem m_law_least (os : List O) (Q : O → List O → Prop) (h : sp_law_least os Q) : Ends r_law_least n_law_least os Q := by
  obtain ⟨ns, L, bl, b, e, rfl, hl, hn, hL, hb, he, hbe, q⟩ := h
  have e1 : (ns.map PyData.str).length = ns.length := List.length_map _
  have p2 : ∀ i, i ≤ 8 → 2 ^ i ≤ 256 := fun i hi => Nat.pow_le_pow_right (by decide : 1 ≤ 2) hi
  walk_at "go"
  · refine ⟨fun i env => ∃ ss o5 o6, env = [some (.d (lvD ns L)), some (.d (natsD bl)), some (.d (.int (b : Nat))), some (.d (.int (e : Nat))), some (.own (ss.map fun s => .list (natD s))), o5, o6] ∧ Sets ns.length b e i ss, ⟨[[b]], none, none, rfl, by simp, by simp, by simp, by simpa using hbe.symm, by simp, fun T h1 h2 => ⟨[b], by simp, fun v hv => absurd hv (by omega)⟩⟩, ?_, ?_⟩
    · rintro i x env hx ⟨ss, o5, o6, rfl, S⟩
      obtain ⟨ex, hi⟩ := rngD_at hx
      rw [e1] at hi
      subst ex
      rw [Int.zero_add]
      have hfew := Nat.le_trans S.few (p2 i (by omega))
      have hmm : inD (.int (i : Nat)) [.int (b : Nat), .int (e : Nat)] = ([b, e] : List Nat).contains i := inD_nat (bl := [b, e])
      walk_at "wh"
      refine ⟨(by decide : 2 ≤ sizeLine), ?_⟩
      walk_at "wh"
      refine ⟨rfl, rfl, ?_⟩
      walk_at "wh"
      refine decI (fun h => ?_) (fun h => ?_)
      · have h : (!inD (.int (i : Nat)) [.int (b : Nat), .int (e : Nat)]) = true := h
        rw [hmm] at h
        have hne : i ≠ b ∧ i ≠ e := by simpa using h
        walk_at "wh"
        refine lc_mapE (ys := (ss.map (· ++ [i])).map fun s => .list (natD s)) (fun env => ∃ o6, env = [some (.d (lvD ns L)), some (.d (natsD bl)), some (.d (.int (b : Nat))), some (.d (.int (e : Nat))), some (.d (.list (ss.map fun s => .list (natD s)))), some (.d (.int (i : Nat))), o6]) ⟨_, rfl⟩ (by simp) (by rw [List.length_map]; omega) (fun j x y k e' he' hx hy hk => ?_) ?_
        · obtain ⟨o6, rfl⟩ := he'
          obtain ⟨s, hs, rfl⟩ := get_map hx
          rw [List.getElem?_map, List.getElem?_map, hs] at hy
          cases hy
          have hsl := S.len s (List.mem_of_getElem? hs)
          walk_at "wh"
          refine ⟨(by decide : 1 ≤ sizeLine), ?_⟩
          walk_at "wh"
          refine ⟨?_, ?_⟩
          · show (natD s).length + 1 ≤ sizeLine
            rw [natD_len, sizeLine_eq]
            omega
          walk_at "wh"
          have := natD_snoc s i
          rw [this]
          exact hk _ ⟨_, rfl⟩
        rintro env ⟨o6, rfl⟩
        walk_at "wh"
        refine ⟨?_, ?_⟩
        · rw [List.length_map, List.length_map, List.length_map, sizeLine_eq]
          omega
        walk_at "wh"
        exact ⟨ss ++ ss.map (· ++ [i]), _, _, by rw [List.map_append]; rfl, S.next hne.1 hne.2⟩
      · have h : ¬ (!inD (.int (i : Nat)) [.int (b : Nat), .int (e : Nat)]) = true := h
        rw [hmm] at h
        have h9 : ¬ i = b → i = e := by simpa using h
        have hor : i = b ∨ i = e := (Decidable.em (i = b)).imp_right h9
        walk_at "wh"
        exact ⟨ss, _, _, rfl, S.skip hor⟩
    · rintro env ⟨ss, o5, o6, rfl, S⟩
      rw [rngD_len, e1, show (((ns.length : Nat) : Int) - 0).toNat = ns.length by omega] at S
      have hfew := Nat.le_trans S.few (p2 _ hn)
      walk_at "wh"
      refine lc_mapE (ys := (ss.map fun s => (((netOf L bl).cut (inS s) : Nat) : Int)).map PyData.int) (fun env => ∃ o6, env = [some (.d (lvD ns L)), some (.d (natsD bl)), some (.d (.int (b : Nat))), some (.d (.int (e : Nat))), some (.d (.list (ss.map fun s => .list (natD s)))), o5, o6]) ⟨_, rfl⟩ (by simp) (by rw [List.length_map]; omega) (fun j x y k e' he' hx hy hk => ?_) ?_
      · obtain ⟨o6, rfl⟩ := he'
        obtain ⟨s, hs, rfl⟩ := get_map hx
        rw [List.getElem?_map, List.getElem?_map, hs] at hy
        cases hy
        walk_at "wh"
        refine ⟨ns, L, bl, s, _, rfl, .inl rfl, hl, ?_⟩
        walk_at "wh"
        exact hk _ ⟨_, rfl⟩
      rintro env ⟨o6, rfl⟩
      walk_at "wh"
      refine ⟨_, intsOf_map _, ?_, fun m hm hmin => ?_⟩
      · obtain ⟨s, hs, _⟩ := S.all (fun v => v == b) (beq_self_eq_true b) (beq_eq_false_iff_ne.mpr hbe.symm)
        rw [List.length_map]
        exact List.length_pos_of_mem hs
      obtain ⟨s, hs, rfl⟩ := List.mem_map.mp hm
      walk_at "wh"
      refine q _ ⟨⟨inS s, ⟨List.contains_iff_mem.mpr (S.hb s hs), ?_⟩, rfl⟩, fun T hT => ?_⟩
      · rw [← Bool.not_eq_true]
        exact fun z => S.he s hs (List.contains_iff_mem.mp z)
      · obtain ⟨r, hr, ha⟩ := S.all T hT.1 hT.2
        have h1 := hmin _ (List.mem_map.mpr ⟨r, hr, rfl⟩)
        rw [← cut_congr hL ha]
        omega
  · rw [e1]; omega
  · rw [e1]; omega
  · exact (by decide : 1 ≤ sizeLine)
  · exact (by decide : 1 ≤ sizeLine)
theorem f_law_count {P : Program} {w : World} {K : Fg} {mg : Str → Option Value} {base : Heap} {f : Addr} {fd : FuncData} (g : Gs K mg) (F : Fun K "_law_count" "_law_count" s_law_count f fd) : FnOk P w K mg base CX0 1 f fd ["levels", "blanks", "marks"] (SpOf K sp_law_count) :=
  fn_ok F sc_law_count [] (fun cdv A outer s H E hr => q_law_count g cdv A outer s H E hr) (by walk_at "len") (by walk_at "keep") m_law_count
theorem mono_law_count : sp_law_count.Mono := by walk_at "mono"

theorem f_law_is_cut {P : Program} {w : World} {K : Fg} {mg : Str → Option Value} {base : Heap} {f : Addr} {fd : FuncData} (g : Gs K mg) (F : Fun K "_law_is_cut" "_law_is_cut" s_law_is_cut f fd) : FnOk P w K mg base CX0 1 f fd ["levels", "mark", "other", "thing"] (SpOf K sp_law_is_cut) :=
  fn_ok F sc_law_is_cut [] (fun cdv A outer s H E hr => q_law_is_cut g cdv A outer s H E hr) (by walk_at "len") (by walk_at "keep") m_law_is_cut
theorem mono_law_is_cut : sp_law_is_cut.Mono := by walk_at "mono"

theorem f_law_least {P : Program} {w : World} {K : Fg} {mg : Str → Option Value} {base : Heap} {f : Addr} {fd : FuncData} (g : Gs K mg) (h_law_count : Has P w K mg base "_law_count" ["levels", "blanks", "marks"] 1 sp_law_count) (F : Fun K "_law_least" "_law_least" s_law_least f fd) : FnOk P w K mg base CX0 2 f fd ["levels", "blanks", "mark", "other"] (SpOf K sp_law_least) :=
  fn_ok F sc_law_least [] (fun cdv A outer s H E hr => q_law_least g h_law_count cdv A outer s H E hr) (by walk_at "len") (by walk_at "keep") m_law_least
theorem mono_law_least : sp_law_least.Mono := by walk_at "mono"

end K76
set_option Elab.async false
set_option linter.all false
set_option maxRecDepth 100000
set_option maxHeartbeats 1000000
set_option exponentiation.threshold 20000
set_option pp.deepTerms false
set_option pp.maxSteps 500
namespace K76
open PySem PySem.Spec PyProof.Rows L2 Pf
local macro_rules | `(tactic| walk_at "go") => `(tactic| (conv => whnf) <;> repeat ((first | refine atE rfl ?_ | refine andR ?_ ?_); (conv => whnf)))
local macro_rules | `(tactic| walk_at "wh") => `(tactic| conv => whnf)
local macro_rules | `(tactic| walk_at "len") => `(tactic| (intro os Q h; (repeat (obtain ⟨_, h⟩ := h)); subst_vars; rfl))
local macro_rules | `(tactic| walk_at "keep") => `(tactic| (intro os Q h; (repeat (obtain ⟨_, h⟩ := h)); subst_vars; simp [keepOk]))
local macro_rules | `(tactic| walk_at "mono") => `(tactic| (intro os k k' f; repeat (first | exact f _ _ | refine Exists.imp fun _ => ?_ | refine And.imp_right ?_ | refine forall_imp fun _ => ?_)))
/-! the law's judge of ways -/
open Fl (Net)
def sp_law_is_ways : FSp := fun os Q => ∃ (ns : List Str) (L : List Ln) (bl : List Nat) (b e : Nat) (Ws : List (List (Nat × Int))), os = [.d (lvD ns L), .d (natsD bl), .d (.int (b : Nat)), .d (.int (e : Nat)), .d (.int (Ws.length : Nat)), .d (.tuple (Ws.map wayD))] ∧ L.length ≤ 60 ∧ (∀ l ∈ L, l.2.1 < 12 ∧ l.2.2 < 12) ∧ b < 12 ∧ Ws.length ≤ 100 ∧ Good (netOf L bl) b e Ws ∧ Q (.d (.bool true)) os
/-! ### _law_is_ways -/
abbrev s_law_is_ways : Stmt := topS 48
abbrev n_law_is_ways : List Str := ["levels", "blanks", "mark", "other", "many", "thing", "used", "way", "here", "places", "pair", "one", "tail", "head"]
theorem sc_law_is_ways : FnScope n_law_is_ways ["levels", "blanks", "mark", "other", "many", "thing"] (defScope s_law_is_ways) := ⟨rfl, rfl, rfl, by decide +kernel, rfl, by decide +kernel, by decide +kernel⟩
def r_law_is_ways : RS := (rSeq (rIfS (rOr (rNot (rTb (rIsi isTuple (rN 5)))) (rCmp (dEq true) (rP (rD (rCB fLen (rACons (rN 5) rANil)))) (rN 4))) (rRet (rO (rC (.bool false)))) rNext)
  (rSeq (rSet 6 (rLst rNil))
  (rSeq (rFor (rFs (rVar 5)) (rGn 7) (rSeq (rIfS (rNot (rTb (rIsi isTuple (rN 7)))) (rRet (rO (rC (.bool false)))) rNext)
  (rSeq (rSet 8 (rO (rVar 2)))
  (rSeq (rSet 9 (rLst (rCons (rVar 2) rNil)))
  (rSeq (rFor (rFs (rVar 7)) (rGn 10) (rSeq (rIfS (rOr (rNot (rTb (rIsi isTuple (rN 10)))) (rOr (rCmp (dEq true) (rP (rD (rCB fLen (rACons (rN 10) rANil)))) (rP (rC (.int 2)))) (rCmp bGt (rP (rD (rCB fLen (rACons (rP (rD (rLc (rFs (rVar 10)) (rGn 11) (rOr (rNot (rTb (rIsi isInt (rN 11)))) (rTb (rIsi isBool (rN 11)))) (rVar 11) [11]))) rANil)))) (rP (rC (.int 0)))))) (rRet (rO (rC (.bool false)))) rNext)
  (rSeq (rIfS (rOr (rNot (rChain bLe bLt (rP (rC (.int 0))) (rP (rD (rOp dIx (rN 10) (rP (rC (.int 0)))))) (rP (rD (rCB fLen (rACons (rP (rD (rOp dIx (rN 0) (rP (rC (.int 1)))))) rANil)))))) (rOr (rCmp (dIn true) (rP (rD (rOp dIx (rN 10) (rP (rC (.int 1)))))) (rP (rTup (rCons (rC (.int 1)) (rCons (rNeg (rC (.int 1))) rNil))))) (rOr (rCmp (dIn false) (rP (rD (rOp dIx (rN 10) (rP (rC (.int 0)))))) (rN 1)) (rCmp (dIn false) (rP (rD (rOp dIx (rN 10) (rP (rC (.int 0)))))) (rN 6))))) (rRet (rO (rC (.bool false)))) rNext)
  (rSeq (rAsgT (rD (rIf (rCmp (dEq false) (rP (rD (rOp dIx (rN 10) (rP (rC (.int 1)))))) (rP (rC (.int 1)))) (rO (rTup (rCons (rD (rOp dIx (rP (rD (rOp dIx (rP (rD (rOp dIx (rN 0) (rP (rC (.int 1)))))) (rP (rD (rOp dIx (rN 10) (rP (rC (.int 0))))))))) (rP (rC (.int 1))))) (rCons (rD (rOp dIx (rP (rD (rOp dIx (rP (rD (rOp dIx (rN 0) (rP (rC (.int 1)))))) (rP (rD (rOp dIx (rN 10) (rP (rC (.int 0))))))))) (rP (rC (.int 2))))) rNil)))) (rO (rTup (rCons (rD (rOp dIx (rP (rD (rOp dIx (rP (rD (rOp dIx (rN 0) (rP (rC (.int 1)))))) (rP (rD (rOp dIx (rN 10) (rP (rC (.int 0))))))))) (rP (rC (.int 2))))) (rCons (rD (rOp dIx (rP (rD (rOp dIx (rP (rD (rOp dIx (rN 0) (rP (rC (.int 1)))))) (rP (rD (rOp dIx (rN 10) (rP (rC (.int 0))))))))) (rP (rC (.int 1))))) rNil)))))) (rGt 2 (rGcons (rGn 12) (rGcons (rGn 13) rGnil))))
  (rSeq (rIfS (rOr (rCmp (dEq true) (rN 12) (rN 8)) (rCmp (dIn false) (rN 13) (rN 9))) (rRet (rO (rC (.bool false)))) rNext)
  (rSeq (rSet 8 (rO (rVar 13)))
  (rSeq (rDrop (rApp 9 (rVar 8)))
  (rDrop (rApp 6 (rD (rOp dIx (rN 10) (rP (rC (.int 0))))))))))))))
  (rIfS (rCmp (dEq true) (rN 8) (rN 3)) (rRet (rO (rC (.bool false)))) rNext))))))
  (rRet (rO (rC (.bool true)))))))
theorem q_law_is_ways {P : Program} {w : World} {K : Fg} {mg : Str → Option Value} {base : Heap} {f : Addr} (g : Gs K mg) (cdv : Value) (A : Around) (outer : List PySem.Env) (s : Shared) (H : Hp) (E : XK) (hr : Room 0 (A.deeper (envOfC "_law_is_ways" (defScope s_law_is_ways) s.heap.objs.size f cdv))) :
    QSs (cxOf CX0 P w K mg base n_law_is_ways "_law_is_ways" (defScope s_law_is_ways) f cdv A outer s H E).nox [] (defBody s_law_is_ways) r_law_is_ways :=
  (qss_cons (qs_if (QW.t (qw_or (qt_not (qt_call (qv_isi_tuple g.isinstance g.tuple (qp_var 5)))) (qw_or1 (qt_ne hr.units ((QE.v (qe_len g.len (qa_cons (qp_var 5) qa_nil)))).p (qp_var 4))))) (qss_one (qs_ret (QV.o qv_bl))) qss_nil)
  (qss_cons (qs_set 6 sc_law_is_ways.nd (qe_lst ql_nil))
  (qss_cons (qs_for PassesOwn.never rfl (qf_seq (qv_var 5)) (qg_name 7 sc_law_is_ways.nd) (qss_cons (qs_if (qt_not (qt_call (qv_isi_tuple g.isinstance g.tuple (qp_var 7)))) (qss_one (qs_ret (QV.o qv_bl))) qss_nil)
  (qss_cons (qs_set 8 sc_law_is_ways.nd (QV.o (qv_var 2)))
  (qss_cons (qs_set 9 sc_law_is_ways.nd (qe_lst (ql_cons (qv_var 2) ql_nil)))
  (qss_cons (qs_for PassesOwn.never rfl (qf_seq (qv_var 7)) (qg_name 10 sc_law_is_ways.nd) (qss_cons (qs_if (QW.t (qw_or (qt_not (qt_call (qv_isi_tuple g.isinstance g.tuple (qp_var 10)))) (qw_or (qt_ne hr.units ((QE.v (qe_len g.len (qa_cons (qp_var 10) qa_nil)))).p (qv_int).p) (qw_or1 (qt_gt ((QE.v (qe_len g.len (qa_cons ((QE.v (qe_lc (own := [("one", 11)]) rfl sc_law_is_ways.nd (qf_seq (qv_var 10)) (blkOk_by (by rfl)) (fun _ _ _ _ _ => (qg_name 11 sc_law_is_ways.nd)) (fun _ _ _ _ _ => (qts_one (QW.t (qw_or (qt_not (qt_call (qv_isi_int g.isinstance g.int (qp_var 11)))) (qw_or1 (qt_call (qv_isi_bool g.isinstance g.bool (qp_var 11)))))))) (fun _ _ _ _ _ => (qv_var 11))))).p qa_nil)))).p (qv_int).p))))) (qss_one (qs_ret (QV.o qv_bl))) qss_nil)
  (qss_cons (qs_if (QW.t (qw_or (qt_not (qt_chain op_le dOrd_ok dOrd_mono op_lt dOrd_ok dOrd_mono (qv_int).p ((qv_ix (qp_var 10) (qv_int).p)).p ((QE.v (qe_len g.len (qa_cons ((qv_ix (qp_var 0) (qv_int).p)).p qa_nil)))).p)) (qw_or (qt_notin ((qv_ix (qp_var 10) (qv_int).p)).p ((qv_tup (ql_cons qv_int (ql_cons (qv_neg qv_int) ql_nil)))).p) (qw_or (qt_in ((qv_ix (qp_var 10) (qv_int).p)).p (qp_var 1)) (qw_or1 (qt_in ((qv_ix (qp_var 10) (qv_int).p)).p (qp_var 6))))))) (qss_one (qs_ret (QV.o qv_bl))) qss_nil)
  (qss_cons (qs_asgT (QE.v (qe_if (qt_eq hr.units ((qv_ix (qp_var 10) (qv_int).p)).p (qv_int).p) (QV.o (qv_tup (ql_cons (qv_ix ((qv_ix ((qv_ix (qp_var 0) (qv_int).p)).p ((qv_ix (qp_var 10) (qv_int).p)).p)).p (qv_int).p) (ql_cons (qv_ix ((qv_ix ((qv_ix (qp_var 0) (qv_int).p)).p ((qv_ix (qp_var 10) (qv_int).p)).p)).p (qv_int).p) ql_nil)))) (QV.o (qv_tup (ql_cons (qv_ix ((qv_ix ((qv_ix (qp_var 0) (qv_int).p)).p ((qv_ix (qp_var 10) (qv_int).p)).p)).p (qv_int).p) (ql_cons (qv_ix ((qv_ix ((qv_ix (qp_var 0) (qv_int).p)).p ((qv_ix (qp_var 10) (qv_int).p)).p)).p (qv_int).p) ql_nil)))))) (qg_tup 2 rfl (qgs_cons (qg_name 12 sc_law_is_ways.nd) (qgs_cons (qg_name 13 sc_law_is_ways.nd) qgs_nil))))
  (qss_cons (qs_if (QW.t (qw_or (qt_ne hr.units (qp_var 12) (qp_var 8)) (qw_or1 (qt_in (qp_var 13) (qp_var 9))))) (qss_one (qs_ret (QV.o qv_bl))) qss_nil)
  (qss_cons (qs_set 8 sc_law_is_ways.nd (QV.o (qv_var 13)))
  (qss_cons (qs_expr (qe_append 9 (qv_var 8)))
  (qss_one (qs_expr (qe_append 6 (qv_ix (qp_var 10) (qv_int).p)))))))))))
  (qss_one (qs_if (qt_ne hr.units (qp_var 8) (qp_var 3)) (qss_one (qs_ret (QV.o qv_bl))) qss_nil)))))))
  (qss_one (qs_ret (QV.o qv_bl))))))

theorem m_law_is_ways (os : List O) (Q : O → List O → Prop) (h : sp_law_is_ways os Q) : Ends r_law_is_ways n_law_is_ways os Q := by
  obtain ⟨ns, L, bl, b, e, Ws, rfl, hl, hL, hb, hz, G, q⟩ := h
  have fewL : (linesOf Ws).length ≤ L.length := nodup_lt _ _ G.nd fun x hx => by
    obtain ⟨l, hl1, hl2⟩ := List.mem_flatten.mp hx
    obtain ⟨V, hV, rfl⟩ := List.mem_map.mp hl1
    obtain ⟨s, hsV, rfl⟩ := List.mem_map.mp hl2
    exact ((G.way V hV).ok s hsV).1
  walk_at "go"
  refine decI (fun h => ?_) (fun h => ?_)
  · have h : (!decide ((((Ws.map wayD).length : Nat) : Int) = ((Ws.length : Nat) : Int))) = true := h
    rw [List.length_map] at h
    simp at h
  walk_at "go"
  · refine ⟨fun i env => ∃ o7 o8 o9 o10 o12 o13, env = [some (.d (lvD ns L)), some (.d (natsD bl)), some (.d (.int (b : Nat))), some (.d (.int (e : Nat))), some (.d (.int (Ws.length : Nat))), some (.d (.tuple (Ws.map wayD))), some (.own (natD (linesOf (Ws.take i)))), o7, o8, o9, o10, none, o12, o13], ⟨_, _, _, _, _, _, rfl⟩, ?_, ?_⟩
    · rintro i x env hx ⟨o7, o8, o9, o10, o12, o13, rfl⟩
      obtain ⟨V, hV, rfl⟩ := get_map hx
      have hVm := List.mem_of_getElem? hV
      have wy := G.way V hVm
      have hVl := way_few hL hb wy
      have e2 : linesOf (Ws.take (i + 1)) = linesOf (Ws.take i) ++ V.map (·.1) := by
        unfold linesOf
        rw [List.take_add_one, hV, List.map_append, List.flatten_append]
        simp
      have e3 : linesOf Ws = linesOf (Ws.take (i + 1)) ++ linesOf (Ws.drop (i + 1)) := by
        unfold linesOf
        rw [← List.flatten_append, ← List.map_append, List.take_append_drop]
      have nd2 : (linesOf (Ws.take i) ++ V.map (·.1)).Nodup := by
        have := G.nd
        rw [e3, e2] at this
        exact (List.nodup_append.mp this).1
      have hsz : (linesOf (Ws.take i) ++ V.map (·.1)).length ≤ 60 := by
        rw [e3, e2, List.length_append] at fewL
        omega
      walk_at "go"
      · refine ⟨fun j env => ∃ here o10 o12 o13, env = [some (.d (lvD ns L)), some (.d (natsD bl)), some (.d (.int (b : Nat))), some (.d (.int (e : Nat))), some (.d (.int (Ws.length : Nat))), some (.d (.tuple (Ws.map wayD))), some (.own (natD (linesOf (Ws.take i) ++ (V.take j).map (·.1)))), some (.d (wayD V)), some (.d (.int (here : Nat))), some (.own (natD ((netOf L bl).marks b (V.take j)))), o10, none, o12, o13] ∧ ((netOf L bl).marks b V)[j]? = some here, ⟨b, _, _, _, by rw [List.take_zero, List.map_nil, List.append_nil]; rfl, rfl⟩, ?_, ?_⟩
        · rintro j y env hy ⟨here, o10, o12, o13, rfl, hh⟩
          obtain ⟨⟨k, d⟩, hs, rfl⟩ := get_map hy
          have hsm := List.mem_of_getElem? hs
          have hj := (List.getElem?_eq_some_iff.mp hs).1
          have ok := wy.ok _ hsm
          have ok1 : k < L.length := ok.1
          obtain ⟨l, hlk, _⟩ := getAt ok1
          have hbk : bl.contains k = false := G.bl V hVm _ hsm
          have hbeg : (netOf L bl).beg (k, d) = here := by
            rw [wy.chain.begs, List.getElem?_append_left (by rw [List.length_map]; exact hj), List.getElem?_map, hs] at hh
            exact Option.some.inj hh
          have hnext : ((netOf L bl).marks b V)[j + 1]? = some ((netOf L bl).fin (k, d)) := by
            unfold Fl.Net.marks
            rw [List.getElem?_cons_succ, List.getElem?_map, hs]
            rfl
          have hnew : (natD ((netOf L bl).marks b (V.take j))) ++ [.int ((netOf L bl).fin (k, d) : Nat)] = natD ((netOf L bl).marks b (V.take (j + 1))) := by
            rw [natD_snoc, ← Fl.marks_snoc, List.take_add_one, hs]
            rfl
          have hnew2 : natD (linesOf (Ws.take i) ++ (V.take j).map (·.1)) ++ [.int (k : Nat)] = natD (linesOf (Ws.take i) ++ (V.take (j + 1)).map (·.1)) := by
            rw [natD_snoc, List.take_add_one, hs, List.map_append, List.append_assoc]
            rfl
          have hout : ((netOf L bl).marks b (V.take j)).contains ((netOf L bl).fin (k, d)) = false := by
            rw [← Bool.not_eq_true, List.contains_iff_mem, ← Fl.marks_take]
            intro hm
            obtain ⟨m, hm1⟩ := List.mem_iff_getElem?.mp hm
            rw [List.getElem?_take] at hm1
            split at hm1
            · rename_i hlt
              have a1 := List.getElem?_eq_some_iff.mp hm1
              have a2 := List.getElem?_eq_some_iff.mp hnext
              exact List.pairwise_iff_getElem.mp wy.nodup m (j + 1) a1.1 a2.1 (by omega) (a1.2.trans a2.2.symm)
            · cases hm1
          have hout2 : (linesOf (Ws.take i) ++ (V.take j).map (·.1)).contains k = false := by
            rw [← Bool.not_eq_true, List.contains_iff_mem]
            intro hm
            have nd3 : (linesOf (Ws.take i) ++ ((V.take j).map (·.1) ++ (V.drop j).map (·.1))).Nodup := by
              rw [← List.map_append, List.take_append_drop]
              exact nd2
            rw [← List.append_assoc] at nd3
            have hk : k ∈ (V.drop j).map (·.1) := by
              refine List.mem_map.mpr ⟨(k, d), ?_, rfl⟩
              refine List.mem_of_getElem? (i := 0) ?_
              rw [List.getElem?_drop]
              exact hs
            exact (List.nodup_append.mp nd3).2.2 k hm k hk rfl
          have hin1 : inD (.int (k : Nat)) (natD bl) = false := by rw [inD_nat]; exact hbk
          have hin2 : inD (.int (k : Nat)) (natD (linesOf (Ws.take i) ++ (V.take j).map (·.1))) = false := by rw [inD_nat]; exact hout2
          have hin3 : inD (.int ((netOf L bl).fin (k, d) : Nat)) (natD ((netOf L bl).marks b (V.take j))) = false := by rw [inD_nat]; exact hout
          have hs1 : (natD ((netOf L bl).marks b (V.take j))).length < sizeLine := by
            rw [natD_len, Fl.marks_len, List.length_take, sizeLine_eq]
            omega
          have hs2 : (natD (linesOf (Ws.take i) ++ (V.take j).map (·.1))).length < sizeLine := by
            rw [List.length_append, List.length_map] at hsz
            rw [natD_len, List.length_append, List.length_map, List.length_take, sizeLine_eq]
            omega
          have hd : d = 1 ∨ d = -1 := ok.2
          walk_at "wh"
          refine lc_filterE (p := fun _ => false) (g := id) (fun env => env = [some (.d (lvD ns L)), some (.d (natsD bl)), some (.d (.int (b : Nat))), some (.d (.int (e : Nat))), some (.d (.int (Ws.length : Nat))), some (.d (.tuple (Ws.map wayD))), some (.own (natD (linesOf (Ws.take i) ++ (V.take j).map (·.1)))), some (.d (wayD V)), some (.d (.int (here : Nat))), some (.own (natD ((netOf L bl).marks b (V.take j)))), some (.d (stD (k, d))), none, o12, o13]) rfl (by show 2 ≤ 1000; decide) (fun i' x' k1 k2 e' he' hx' ht hf => ?_) ?_
          · subst he'
            have : i' = 0 ∨ i' = 1 := by
              have := (List.getElem?_eq_some_iff.mp hx').1
              have : i' < 2 := this
              omega
            rcases this with rfl | rfl <;> cases hx'
            · walk_at "wh"
              exact hf rfl _ rfl
            · walk_at "wh"
              exact hf rfl _ rfl
          rintro env rfl
          rw [flt_false]
          rcases hd with rfl | rfl
          · walk_at "wh"
            have hb0 : (netOf L bl).beg (k, 1) = l.2.1 := net_t hlk
            have hfin : (netOf L bl).fin (k, 1) = l.2.2 := net_h hlk
            have hbeg : l.2.1 = here := hb0.symm.trans hbeg
            rw [hfin] at hnext hnew hin3
            subst hbeg
            refine ⟨_, rfl, ?_⟩
            walk_at "wh"
            refine ⟨_, rfl, ?_⟩
            walk_at "wh"
            refine decI (fun h => ?_) (fun h => ?_)
            · have h : (!decide (((k : Nat) : Int) < ((L.map lineD).length : Nat))) = true := h
              rw [List.length_map, decide_eq_true (by omega)] at h
              cases h
            · walk_at "wh"
              refine ⟨_, rfl, ?_⟩
              walk_at "wh"
              refine ⟨(by decide : 2 ≤ sizeLine), ?_⟩
              walk_at "wh"
              refine ⟨rfl, rfl, ?_⟩
              walk_at "wh"
              refine ⟨_, rfl, ?_⟩
              walk_at "wh"
              refine ⟨rfl, flat_nat bl, ?_⟩
              dsimp only
              rw [if_neg Bool.false_ne_true, hin1]
              walk_at "wh"
              refine ⟨_, rfl, ?_⟩
              walk_at "wh"
              refine ⟨rfl, flat_nat _, ?_⟩
              dsimp only
              rw [if_neg Bool.false_ne_true, hin2]
              walk_at "wh"
              refine ⟨_, rfl, ?_⟩
              walk_at "wh"
              refine ⟨_, rfl, ?_⟩
              walk_at "wh"
              refine ⟨_, rfl, ?_⟩
              walk_at "wh"
              refine ⟨_, atI_map hlk, ?_⟩
              walk_at "wh"
              refine ⟨_, rfl, ?_⟩
              walk_at "wh"
              refine ⟨_, rfl, ?_⟩
              walk_at "wh"
              refine ⟨_, rfl, ?_⟩
              walk_at "wh"
              refine ⟨_, atI_map hlk, ?_⟩
              walk_at "wh"
              refine ⟨_, rfl, ?_⟩
              walk_at "wh"
              refine ⟨(by decide : 2 ≤ sizeLine), ?_⟩
              walk_at "wh"
              refine ⟨rfl, ?_⟩
              walk_at "wh"
              refine decI (fun h => ?_) (fun h => ?_)
              · have h : (!decide (((l.2.1 : Nat) : Int) = ((l.2.1 : Nat) : Int))) = true := h
                simp at h
              · walk_at "wh"
                refine ⟨rfl, flat_nat _, ?_⟩
                dsimp only
                rw [if_neg Bool.false_ne_true, hin3]
                walk_at "wh"
                refine ⟨hs1, ?_⟩
                walk_at "wh"
                refine ⟨_, rfl, ?_⟩
                walk_at "wh"
                refine ⟨hs2, ?_⟩
                walk_at "wh"
                rw [hnew, hnew2]
                exact ⟨_, _, _, _, rfl, hnext⟩
          · walk_at "wh"
            have hb0 : (netOf L bl).beg (k, -1) = l.2.2 := net_h hlk
            have hfin : (netOf L bl).fin (k, -1) = l.2.1 := net_t hlk
            have hbeg : l.2.2 = here := hb0.symm.trans hbeg
            rw [hfin] at hnext hnew hin3
            subst hbeg
            refine ⟨_, rfl, ?_⟩
            walk_at "wh"
            refine ⟨_, rfl, ?_⟩
            walk_at "wh"
            refine decI (fun h => ?_) (fun h => ?_)
            · have h : (!decide (((k : Nat) : Int) < ((L.map lineD).length : Nat))) = true := h
              rw [List.length_map, decide_eq_true (by omega)] at h
              cases h
            · walk_at "wh"
              refine ⟨_, rfl, ?_⟩
              walk_at "wh"
              refine ⟨(by decide : 2 ≤ sizeLine), ?_⟩
              walk_at "wh"
              refine ⟨rfl, rfl, ?_⟩
              walk_at "wh"
              refine ⟨_, rfl, ?_⟩
              walk_at "wh"
              refine ⟨rfl, flat_nat bl, ?_⟩
              dsimp only
              rw [if_neg Bool.false_ne_true, hin1]
              walk_at "wh"
              refine ⟨_, rfl, ?_⟩
              walk_at "wh"
              refine ⟨rfl, flat_nat _, ?_⟩
              dsimp only
              rw [if_neg Bool.false_ne_true, hin2]
              walk_at "wh"
              refine ⟨_, rfl, ?_⟩
              walk_at "wh"
              refine ⟨_, rfl, ?_⟩
              walk_at "wh"
              refine ⟨_, rfl, ?_⟩
              walk_at "wh"
              refine ⟨_, atI_map hlk, ?_⟩
              walk_at "wh"
              refine ⟨_, rfl, ?_⟩
              walk_at "wh"
              refine ⟨_, rfl, ?_⟩
              walk_at "wh"
              refine ⟨_, rfl, ?_⟩
              walk_at "wh"
              refine ⟨_, atI_map hlk, ?_⟩
              walk_at "wh"
              refine ⟨_, rfl, ?_⟩
              walk_at "wh"
              refine ⟨(by decide : 2 ≤ sizeLine), ?_⟩
              walk_at "wh"
              refine ⟨rfl, ?_⟩
              walk_at "wh"
              refine decI (fun h => ?_) (fun h => ?_)
              · have h : (!decide (((l.2.2 : Nat) : Int) = ((l.2.2 : Nat) : Int))) = true := h
                simp at h
              · walk_at "wh"
                refine ⟨rfl, flat_nat _, ?_⟩
                dsimp only
                rw [if_neg Bool.false_ne_true, hin3]
                walk_at "wh"
                refine ⟨hs1, ?_⟩
                walk_at "wh"
                refine ⟨_, rfl, ?_⟩
                walk_at "wh"
                refine ⟨hs2, ?_⟩
                walk_at "wh"
                rw [hnew, hnew2]
                exact ⟨_, _, _, _, rfl, hnext⟩
        · rintro env ⟨here, o10, o12, o13, rfl, hh⟩
          rw [List.length_map] at hh
          rw [wy.chain.last] at hh
          cases hh
          rw [List.length_map, List.take_length]
          walk_at "go"
          refine decI (fun h => ?_) (fun h => ?_)
          · have h : (!decide (((e : Nat) : Int) = ((e : Nat) : Int))) = true := h
            simp at h
          · walk_at "wh"
            rw [e2]
            exact ⟨_, _, _, _, _, _, rfl⟩
      · exact (by decide : 1 ≤ sizeLine)
    · rintro env ⟨o7, o8, o9, o10, o12, o13, rfl⟩
      walk_at "go"
      exact q
  · exact Nat.zero_le _
theorem f_law_is_ways {P : Program} {w : World} {K : Fg} {mg : Str → Option Value} {base : Heap} {f : Addr} {fd : FuncData} (g : Gs K mg) (F : Fun K "_law_is_ways" "_law_is_ways" s_law_is_ways f fd) : FnOk P w K mg base CX0 1 f fd ["levels", "blanks", "mark", "other", "many", "thing"] (SpOf K sp_law_is_ways) :=
  fn_ok F sc_law_is_ways [] (fun cdv A outer s H E hr => q_law_is_ways g cdv A outer s H E hr) (by walk_at "len") (by walk_at "keep") m_law_is_ways
theorem mono_law_is_ways : sp_law_is_ways.Mono := by walk_at "mono"

end K76
set_option Elab.async false
set_option linter.all false
set_option maxRecDepth 100000
set_option maxHeartbeats 1000000
set_option exponentiation.threshold 20000
set_option pp.deepTerms false
set_option pp.maxSteps 500
namespace K76
open PySem PySem.Spec PyProof.Rows L2 Pf
local macro_rules | `(tactic| walk_at "go") => `(tactic| (conv => whnf) <;> repeat ((first | refine atE rfl ?_ | refine andR ?_ ?_); (conv => whnf)))
local macro_rules | `(tactic| walk_at "wh") => `(tactic| conv => whnf)
local macro_rules | `(tactic| walk_at "len") => `(tactic| (intro os Q h; (repeat (obtain ⟨_, h⟩ := h)); subst_vars; rfl))
local macro_rules | `(tactic| walk_at "keep") => `(tactic| (intro os Q h; (repeat (obtain ⟨_, h⟩ := h)); subst_vars; simp [keepOk]))
local macro_rules | `(tactic| walk_at "mono") => `(tactic| (intro os k k' f; repeat (first | exact f _ _ | refine Exists.imp fun _ => ?_ | refine And.imp_right ?_ | refine forall_imp fun _ => ?_)))
/-! heights, readings, wrong ones -/
open Fl (Net)
structure Lies (L : List Ln) (bl : List Nat) (Hs : List Int) (R : List (Option Int)) (Wr : List Nat) : Prop where
  len : R.length = L.length
  blk : ∀ k, k < L.length → k ∈ bl → R[k]? = some none
  rd : ∀ k l, L[k]? = some l → k ∉ bl → ∃ n : Int, R[k]? = some (some n) ∧ n.natAbs ≤ 1000 ∧ (k ∉ Wr → n = Hs.getD l.2.2 0 - Hs.getD l.2.1 0)
def sp_law_lies : FSp := fun os Q => ∃ (a b : Int) (ns : List Str) (L : List Ln) (bl : List Nat) (lies most : Nat), os = [plD a b, .d (lvD ns L), .d (natsD bl), .d (.int (lies : Nat)), .d (.int (most : Nat))] ∧ PlOk a b ∧ ns.length ≤ 12 ∧ L.length ≤ 60 ∧ (∀ l ∈ L, l.2.1 < ns.length ∧ l.2.2 < ns.length) ∧ (∀ x ∈ bl, x < L.length) ∧ bl.length ≤ 100 ∧ lies ≤ 60 ∧ most ≤ 2 ∧
  ∀ (Hs : List Int) (R : List (Option Int)) (Wr : List Nat) (a' b' : Int), Hs.length = ns.length → (∀ h ∈ Hs, h.natAbs ≤ 40) → Lies L bl Hs R Wr → Wr.length ≤ lies → PlOk a' b' → Q (.d (.tuple [.list (Hs.map hD), readsD R])) [plD a' b', .d (lvD ns L), .d (natsD bl), .d (.int (lies : Nat)), .d (.int (most : Nat))]
/-! ### _law_lies -/
abbrev s_law_lies : Stmt := topS 53
abbrev n_law_lies : List Str := ["pool", "levels", "blanks", "lies", "most", "heights", "mark", "readings", "line", "shift", "left", "k", "count"]
theorem sc_law_lies : FnScope n_law_lies ["pool", "levels", "blanks", "lies", "most"] (defScope s_law_lies) := ⟨rfl, rfl, rfl, by decide +kernel, rfl, by decide +kernel, by decide +kernel⟩
def r_law_lies : RS := (rSeq (rSet 5 (rLc (rFs (rD (rOp dIx (rN 1) (rP (rC (.int 0)))))) (rGn 6) rYes (rD (rCall sp_law_quotient (rACons (rP (rD (rOp bSub (rP (rD (rCall sp_law_draw (rACons (rN 0) (rACons (rP (rC (.int 41))) rANil))))) (rP (rC (.int 20)))))) (rACons (rP (rD (rOp dAdd (rP (rC (.int 1))) (rP (rD (rCall sp_law_draw (rACons (rN 0) (rACons (rP (rC (.int 2))) rANil)))))))) rANil)))) [6]))
  (rSeq (rSet 7 (rLc (rFs (rD (rOp dIx (rN 1) (rP (rC (.int 1)))))) (rGn 8) rYes (rD (rCall sp_law_plus (rACons (rP (rD (rOp dIx (rN 5) (rP (rD (rOp dIx (rN 8) (rP (rC (.int 2))))))))) (rACons (rP (rD (rOp dIx (rN 5) (rP (rD (rOp dIx (rN 8) (rP (rC (.int 1))))))))) (rACons (rP (rNeg (rC (.int 1)))) rANil))))) [8]))
  (rSeq (rSet 9 (rCall sp_law_quotient (rACons (rP (rD (rOp dAdd (rP (rC (.int 1))) (rP (rD (rCall sp_law_draw (rACons (rN 0) (rACons (rP (rC (.int 5))) rANil)))))))) (rACons (rP (rD (rOp dAdd (rP (rC (.int 1))) (rP (rD (rCall sp_law_draw (rACons (rN 0) (rACons (rP (rC (.int 2))) rANil)))))))) rANil))))
  (rSeq (rSet 10 (rLc (rRng1 (rD (rCB fLen (rACons (rP (rD (rOp dIx (rN 1) (rP (rC (.int 1)))))) rANil)))) (rGn 11) (rCmp (dIn true) (rN 11) (rN 2)) (rVar 11) [11]))
  (rSeq (rFor (rRng1 (rD (rCB fMin2 (rACons (rN 3) (rACons (rP (rD (rCB fLen (rACons (rN 10) rANil)))) rANil))))) (rGn 12) (rSeq (rSet 11 (rPopI 10 (rD (rCall sp_law_draw (rACons (rN 0) (rACons (rP (rD (rCB fLen (rACons (rN 10) rANil)))) rANil))))))
  (rSetIx 7 (rD (rCall sp_law_plus (rACons (rP (rD (rOp dIx (rN 7) (rN 11)))) (rACons (rP (rD (rIf (rCmp (dEq false) (rN 4) (rP (rC (.int 0)))) (rO (rVar 9)) (rCall sp_law_quotient (rACons (rP (rD (rOp dAdd (rP (rC (.int 1))) (rP (rD (rCall sp_law_draw (rACons (rN 0) (rACons (rN 4) rANil)))))))) (rACons (rP (rC (.int 1))) rANil)))))) (rACons (rP (rD (rIf (rCmp (dEq false) (rP (rD (rCall sp_law_draw (rACons (rN 0) (rACons (rP (rC (.int 2))) rANil))))) (rP (rC (.int 0)))) (rO (rC (.int 1))) (rO (rNeg (rC (.int 1))))))) rANil))))) (rVar 11))))
  (rSeq (rFor (rFs (rVar 2)) (rGn 11) (rSetIx 7 (rC .none) (rVar 11)))
  (rRet (rO (rTup (rCons (rVar 5) (rCons (rD (rCB fTuple (rACons (rN 7) rANil))) rNil)))))))))))
theorem q_law_lies {P : Program} {w : World} {K : Fg} {mg : Str → Option Value} {base : Heap} {f : Addr} (g : Gs K mg) (h_law_draw : Has P w K mg base "_law_draw" ["pool", "many"] 1 sp_law_draw) (h_law_quotient : Has P w K mg base "_law_quotient" ["number", "other"] 1 sp_law_quotient) (h_law_plus : Has P w K mg base "_law_plus" ["one", "other", "sign"] 2 sp_law_plus) (cdv : Value) (A : Around) (outer : List PySem.Env) (s : Shared) (H : Hp) (E : XK) (hr : Room 2 (A.deeper (envOfC "_law_lies" (defScope s_law_lies) s.heap.objs.size f cdv))) :
    QSs (cxOf CX0 P w K mg base n_law_lies "_law_lies" (defScope s_law_lies) f cdv A outer s H E).nox [0] (defBody s_law_lies) r_law_lies :=
  (qss_cons (qs_set 5 sc_law_lies.nd (qe_lc (own := [("mark", 6)]) rfl sc_law_lies.nd (qf_seq (qv_ix (qp_var 1) (qv_int).p)) (blkOk_by (by rfl)) (fun _ _ _ _ _ => (qg_name 6 sc_law_lies.nd)) (fun _ _ _ _ _ => qts_nil) (fun _ _ _ _ _ => (QE.v (qe_call h_law_quotient (hr.mono (by decide)) (qa_cons ((QE.v (qe_sub ((QE.v (qe_call h_law_draw (hr.mono (by decide)) (qa_cons (qp_var 0) (qa_cons (qv_int).p qa_nil))))).p (qv_int).p))).p (qa_cons ((QE.v (qe_add (qv_int).p ((QE.v (qe_call h_law_draw (hr.mono (by decide)) (qa_cons (qp_var 0) (qa_cons (qv_int).p qa_nil))))).p))).p qa_nil)))))))
  (qss_cons (qs_setLc (own := [("line", 8)]) 7 rfl sc_law_lies.nd (qf_seq (qv_ix (qp_var 1) (qv_int).p)) (blkOk_by (by rfl)) (fun _ _ _ _ _ => (qg_name 8 sc_law_lies.nd)) (fun _ _ _ _ _ => qts_nil) (fun _ _ _ _ _ => (QE.v (qe_call h_law_plus (hr.mono (by decide)) (qa_cons ((qv_ix (qp_var 5) ((qv_ix (qp_var 8) (qv_int).p)).p)).p (qa_cons ((qv_ix (qp_var 5) ((qv_ix (qp_var 8) (qv_int).p)).p)).p (qa_cons ((qv_neg qv_int)).p qa_nil)))))))
  (qss_cons (qs_set 9 sc_law_lies.nd (qe_call h_law_quotient (hr.mono (by decide)) (qa_cons ((QE.v (qe_add (qv_int).p ((QE.v (qe_call h_law_draw (hr.mono (by decide)) (qa_cons (qp_var 0) (qa_cons (qv_int).p qa_nil))))).p))).p (qa_cons ((QE.v (qe_add (qv_int).p ((QE.v (qe_call h_law_draw (hr.mono (by decide)) (qa_cons (qp_var 0) (qa_cons (qv_int).p qa_nil))))).p))).p qa_nil))))
  (qss_cons (qs_setLc (own := [("k", 11)]) 10 rfl sc_law_lies.nd (qf_range1 g.range (QE.v (qe_len g.len (qa_cons ((qv_ix (qp_var 1) (qv_int).p)).p qa_nil)))) (blkOk_by (by rfl)) (fun _ _ _ _ _ => (qg_name 11 sc_law_lies.nd)) (fun _ _ _ _ _ => (qts_one (qt_notin (qp_var 11) (qp_var 2)))) (fun _ _ _ _ _ => (qv_var 11)))
  (qss_cons (qs_for PassesOwn.never rfl (qf_range1 g.range (QE.v (qe_min2 rfl g.min (qa_cons (qp_var 3) (qa_cons ((QE.v (qe_len g.len (qa_cons (qp_var 10) qa_nil)))).p qa_nil))))) (qg_name 12 sc_law_lies.nd) (qss_cons (qs_set 11 sc_law_lies.nd (qe_popI 10 (QE.v (qe_call h_law_draw (hr.mono (by decide)) (qa_cons (qp_var 0) (qa_cons ((QE.v (qe_len g.len (qa_cons (qp_var 10) qa_nil)))).p qa_nil))))))
  (qss_one (qs_setIx 7 (QE.v (qe_call h_law_plus (hr.mono (by decide)) (qa_cons ((qv_ix (qp_var 7) (qp_var 11))).p (qa_cons ((QE.v (qe_if (qt_eq hr.units (qp_var 4) (qv_int).p) (QV.o (qv_var 9)) (qe_call h_law_quotient (hr.mono (by decide)) (qa_cons ((QE.v (qe_add (qv_int).p ((QE.v (qe_call h_law_draw (hr.mono (by decide)) (qa_cons (qp_var 0) (qa_cons (qp_var 4) qa_nil))))).p))).p (qa_cons (qv_int).p qa_nil)))))).p (qa_cons ((QE.v (qe_if (qt_eq hr.units ((QE.v (qe_call h_law_draw (hr.mono (by decide)) (qa_cons (qp_var 0) (qa_cons (qv_int).p qa_nil))))).p (qv_int).p) (QV.o qv_int) (QV.o (qv_neg qv_int))))).p qa_nil))))) (qv_var 11)))))
  (qss_cons (qs_for PassesOwn.never rfl (qf_seq (qv_var 2)) (qg_name 11 sc_law_lies.nd) (qss_one (qs_setIx 7 qv_non (qv_var 11))))
  (qss_one (qs_ret (QV.o (qv_tup (ql_cons (qv_var 5) (ql_cons (QE.v (qe_tuple g.tuple (qa_cons (qp_var 7) qa_nil))) ql_nil))))))))))))

theorem hv_half (x : Int) : Rat.divInt x 2 = hv x := rfl
theorem hv_one (x : Int) : Rat.divInt x 1 = hv (2 * x) := by
  rw [hv_eq, Rat.divInt_eq_div, Rat.intCast_mul]
  grind
/-- a whole or a half -/
theorem half_of {x : Int} {y B : Nat} (hy : y < 2) (hx : x.natAbs ≤ B) : ∃ n : Int, Rat.divInt x (1 + ((y : Nat) : Int)) = hv n ∧ n.natAbs ≤ 2 * B := by
  have : y = 0 ∨ y = 1 := by omega
  rcases this with rfl | rfl
  · exact ⟨2 * x, hv_one x, by omega⟩
  · exact ⟨x, rfl, by omega⟩
theorem getD_at {hs : List Int} {k : Nat} (h : k < hs.length) : hs[k]? = some (hs.getD k 0) := by
  rw [List.getD_eq_getElem?_getD, List.getElem?_eq_getElem h]
  rfl
theorem m_law_lies (os : List O) (Q : O → List O → Prop) (h : sp_law_lies os Q) : Ends r_law_lies n_law_lies os Q := by
  obtain ⟨a, b, ns, L, bl, lies, most, rfl, hp, hn, hl, hL, hbl, hbz, hli, hmo, q⟩ := h
  have e1 : (ns.map PyData.str).length = ns.length := List.length_map _
  have e2 : (L.map lineD).length = L.length := List.length_map _
  walk_at "go"
  -- heights
  refine ⟨fun i acc env => ∃ a b hs, env = [some (plD a b), some (.d (lvD ns L)), some (.d (natsD bl)), some (.d (.int (lies : Nat))), some (.d (.int (most : Nat))), none, none, none, none, none, none, none, none] ∧ PlOk a b ∧ acc = hs.map hD ∧ hs.length = i ∧ ∀ h ∈ hs, h.natAbs ≤ 40, ⟨a, b, [], rfl, hp, rfl, rfl, fun x h => (nomatch h)⟩, ?_, ?_⟩
  · rintro i x acc env hx ⟨a, b, hs, rfl, hp, rfl, hi, hb⟩
    have hil := (List.getElem?_eq_some_iff.mp hx).1
    rw [e1] at hil
    walk_at "wh"
    refine ⟨a, b, 41, rfl, hp, by decide, by decide, fun x a2 b2 hx2 hp2 => ?_⟩
    walk_at "wh"
    refine ⟨a2, b2, 2, rfl, hp2, by decide, by decide, fun y a3 b3 hy hp3 => ?_⟩
    walk_at "wh"
    refine ⟨((x : Nat) : Int) - 20, 1 + ((y : Nat) : Int), rfl, by omega, ?_, ?_⟩
    · have : (1 + ((y : Nat) : Int)).natAbs ≤ 2 := by omega
      exact Nat.lt_of_le_of_lt this (Nat.lt_of_lt_of_le (show 2 < 2 ^ 2 by decide) (Nat.pow_le_pow_right (by decide) (by decide)))
    obtain ⟨n, en, hn2⟩ := half_of (x := ((x : Nat) : Int) - 20) (B := 20) hy (by omega)
    rw [en]
    walk_at "wh"
    refine ⟨by rw [List.length_map, sizeLine_eq]; omega, a3, b3, hs ++ [n], rfl, hp3, by rw [List.map_append]; rfl, by rw [List.length_append, hi]; rfl, fun h hh => (List.mem_append.mp hh).elim (hb h) fun z => by rw [List.mem_singleton.mp z]; omega⟩
  rintro acc env ⟨a, b, hs, rfl, hp, rfl, hi, hb⟩
  rw [e1] at hi
  -- readings
  have base : ∀ (k : Nat) (l : Ln), L[k]? = some l → hs[l.2.1]? = some (hs.getD l.2.1 0) ∧ hs[l.2.2]? = some (hs.getD l.2.2 0) ∧ (hs.getD l.2.2 0 - hs.getD l.2.1 0).natAbs ≤ 80 ∧ (hs.getD l.2.1 0).natAbs ≤ 40 ∧ (hs.getD l.2.2 0).natAbs ≤ 40 := fun k l hk => by
    have h1 := hL l (List.mem_of_getElem? hk)
    have h2 := getD_at (show l.2.1 < hs.length by omega)
    have h3 := getD_at (show l.2.2 < hs.length by omega)
    have h4 := hb _ (List.mem_of_getElem? h2)
    have h5 := hb _ (List.mem_of_getElem? h3)
    exact ⟨h2, h3, by omega, h4, h5⟩
  walk_at "go"
  refine lc_mapE (xs := L.map lineD) (ys := (L.map fun l => hs.getD l.2.2 0 + -1 * hs.getD l.2.1 0).map hD) (fun env => env = [some (plD a b), some (.d (lvD ns L)), some (.d (natsD bl)), some (.d (.int (lies : Nat))), some (.d (.int (most : Nat))), some (.own (hs.map hD)), none, none, none, none, none, none, none]) rfl (by rw [List.length_map, List.length_map, List.length_map]) (by rw [e2]; omega) (fun i x y k e' he' hx hy hk => ?_) ?_
  · subst he'
    obtain ⟨l, hl2, rfl⟩ := get_map hx
    rw [List.getElem?_map, List.getElem?_map, hl2] at hy
    cases hy
    obtain ⟨g1, g2, g3, g4, g5⟩ := base _ l hl2
    walk_at "wh"
    refine ⟨_, rfl, ?_⟩
    walk_at "wh"
    refine ⟨_, atI_map g2, ?_⟩
    walk_at "wh"
    refine ⟨_, rfl, ?_⟩
    walk_at "wh"
    refine ⟨_, atI_map g1, ?_⟩
    walk_at "wh"
    refine ⟨hv (hs.getD l.2.2 0), hv (hs.getD l.2.1 0), -1, 20, 20, rfl, hv_fit (by omega), hv_fit (by omega), by decide, .inr rfl, ?_⟩
    rw [hv_step]
    walk_at "wh"
    exact hk _ rfl
  rintro env rfl
  -- the shift
  walk_at "wh"
  refine ⟨a, b, 5, rfl, hp, by decide, by decide, fun x a2 b2 hx2 hp2 => ?_⟩
  walk_at "wh"
  refine ⟨a2, b2, 2, rfl, hp2, by decide, by decide, fun y a3 b3 hy hp3 => ?_⟩
  walk_at "wh"
  refine ⟨1 + ((x : Nat) : Int), 1 + ((y : Nat) : Int), rfl, by omega, ?_, ?_⟩
  · have : (1 + ((y : Nat) : Int)).natAbs ≤ 2 := by omega
    exact Nat.lt_of_le_of_lt this (Nat.lt_of_lt_of_le (show 2 < 2 ^ 2 by decide) (Nat.pow_le_pow_right (by decide) (by decide)))
  obtain ⟨sh, esh, hsh⟩ := half_of (x := 1 + ((x : Nat) : Int)) (B := 5) hy (by omega)
  rw [esh]
  walk_at "go"
  · refine ⟨fun i acc env => env = [some (plD a3 b3), some (.d (lvD ns L)), some (.d (natsD bl)), some (.d (.int (lies : Nat))), some (.d (.int (most : Nat))), some (.own (hs.map hD)), none, some (.own ((L.map fun l => hs.getD l.2.2 0 + -1 * hs.getD l.2.1 0).map hD)), none, some (.d (hD sh)), none, none, none] ∧ acc = natD ((List.range i).filter fun k => !bl.contains k), ⟨rfl, rfl⟩, ?_, ?_⟩
    · rintro i x acc env hx ⟨rfl, rfl⟩
      obtain ⟨ex, hi2⟩ := rngD_at hx
      rw [e2] at hi2
      subst ex
      rw [Int.zero_add]
      have hsz : (natD ((List.range i).filter fun k => !bl.contains k)).length < sizeLine := by
        rw [natD_len, sizeLine_eq]
        have := List.length_filter_le (fun k => !bl.contains k) (List.range i)
        rw [List.length_range] at this
        omega
      walk_at "wh"
      refine ⟨rfl, flat_nat bl, ?_⟩
      walk_at "wh"
      refine decI (fun h => ?_) (fun h => ?_)
      · have h : (!inD (.int (i : Nat)) (natD bl)) = true := h
        rw [inD_nat] at h
        walk_at "wh"
        refine ⟨hsz, rfl, ?_⟩
        rw [List.range_succ, List.filter_append, List.filter_cons_of_pos (by exact h), List.filter_nil, natD_snoc]
      · have h : ¬ (!inD (.int (i : Nat)) (natD bl)) = true := h
        rw [inD_nat] at h
        walk_at "wh"
        refine ⟨rfl, ?_⟩
        rw [List.range_succ, List.filter_append, List.filter_cons_of_neg (by exact h), List.filter_nil, List.append_nil]
    rintro acc env ⟨rfl, rfl⟩
    rw [rngD_len, e2, show (((L.length : Nat) : Int) - 0).toNat = L.length by omega]
    have hleft : ∀ x ∈ (List.range L.length).filter fun k => !bl.contains k, x < L.length := fun x hx => List.mem_range.mp (List.mem_filter.mp hx).1
    have hll : ((List.range L.length).filter fun k => !bl.contains k).length ≤ 60 := by
      have := List.length_filter_le (fun k => !bl.contains k) (List.range L.length)
      rw [List.length_range] at this
      omega
    generalize (List.range L.length).filter (fun k => !bl.contains k) = left at hleft hll
    walk_at "go"
    · refine ⟨fun i env => ∃ (a b : Int) (rs : List Int) (ls : List Nat) (o11 o12 : Option O) (Wr : List Nat), env = [some (plD a b), some (.d (lvD ns L)), some (.d (natsD bl)), some (.d (.int (lies : Nat))), some (.d (.int (most : Nat))), some (.own (hs.map hD)), none, some (.own (rs.map hD)), none, some (.d (hD sh)), some (.own (natD ls)), o11, o12] ∧ PlOk a b ∧ rs.length = L.length ∧ Wr.length ≤ i ∧ ls.length + i = left.length ∧ (∀ x ∈ ls, x < L.length) ∧ ∀ (k : Nat) (l : Ln), L[k]? = some l → ∃ n : Int, rs[k]? = some n ∧ n.natAbs ≤ 80 + 10 * i ∧ (k ∉ Wr → n = hs.getD l.2.2 0 + -1 * hs.getD l.2.1 0),
        ⟨a3, b3, _, left, none, none, [], rfl, hp3, by rw [List.length_map], Nat.le_refl _, rfl, hleft, fun k l hk => ⟨_, by rw [List.getElem?_map, hk]; rfl, by have := (base k l hk).2.2.1; omega, fun _ => rfl⟩⟩, ?_, ?_⟩
      · rintro i x env hx ⟨a, b, rs, ls, o11, o12, Wr, rfl, hp, hrl, hWr, hls, hlt, hrd⟩
        obtain ⟨_, hi2⟩ := rngD_at hx
        have hi3 : i < lies ∧ i < left.length := by
          have hi2 : i < ((fun i j : Int => if j < i then j else i) ((lies : Nat) : Int) ((natD left).length : Nat) - 0).toNat := hi2
          dsimp only at hi2
          rw [natD_len] at hi2
          split at hi2 <;> omega
        walk_at "wh"
        refine ⟨a, b, ls.length, by rw [natD_len], hp, by omega, by omega, fun y a4 b4 hy4 hp4 => ?_⟩
        obtain ⟨z, hz, hzm⟩ := getAt hy4
        have hzL := hlt z hzm
        obtain ⟨lz, hlz, _⟩ := getAt hzL
        obtain ⟨n, hn1, hn2, hn3⟩ := hrd z lz hlz
        walk_at "wh"
        refine ⟨y, .int (z : Nat), by omega, by omega, by rw [natD_len]; exact seqIx hy4, by unfold natD; rw [List.getElem?_map, hz]; rfl, ?_⟩
        have hrs : ∀ v : Int, (rs.map hD).set z (hD v) = (rs.set z v).map hD := fun v => List.map_set.symm
        have fin : ∀ (m d a' b' : Int) (o : Option O), m.natAbs ≤ 10 → (d = 1 ∨ d = -1) → PlOk a' b' → ∃ (a b : Int) (rs' : List Int) (ls' : List Nat) (o11 o12 : Option O) (Wr' : List Nat), [some (plD a' b'), some (.d (lvD ns L)), some (.d (natsD bl)), some (.d (.int (lies : Nat))), some (.d (.int (most : Nat))), some (.own (hs.map hD)), none, some (.own ((rs.map hD).set z (hD (n + d * m)))), none, some (.d (hD sh)), some (.own ((natD ls).eraseIdx y)), some (.d (.int (z : Nat))), o] = [some (plD a b), some (.d (lvD ns L)), some (.d (natsD bl)), some (.d (.int (lies : Nat))), some (.d (.int (most : Nat))), some (.own (hs.map hD)), none, some (.own (rs'.map hD)), none, some (.d (hD sh)), some (.own (natD ls')), o11, o12] ∧ PlOk a b ∧ rs'.length = L.length ∧ Wr'.length ≤ i + 1 ∧ ls'.length + (i + 1) = left.length ∧ (∀ x ∈ ls', x < L.length) ∧ ∀ (k : Nat) (l : Ln), L[k]? = some l → ∃ n : Int, rs'[k]? = some n ∧ n.natAbs ≤ 80 + 10 * (i + 1) ∧ (k ∉ Wr' → n = hs.getD l.2.2 0 + -1 * hs.getD l.2.1 0) := by
          intro m d a' b' o hm hd hp'
          refine ⟨a', b', rs.set z (n + d * m), ls.eraseIdx y, _, _, z :: Wr, by rw [hrs, map_erase], hp', by rw [List.length_set]; exact hrl, by rw [List.length_cons]; omega, ?_, fun x hx => hlt x (List.mem_of_mem_eraseIdx hx), fun k l hk => ?_⟩
          · rw [List.length_eraseIdx, if_pos hy4]
            omega
          · by_cases hkz : k = z
            · subst hkz
              refine ⟨n + d * m, by rw [List.getElem?_set_self (by rw [hrl]; exact hzL)], ?_, fun h => absurd List.mem_cons_self h⟩
              rcases hd with rfl | rfl <;> omega
            · obtain ⟨n2, h1, h2, h3⟩ := hrd k l hk
              exact ⟨n2, by rw [List.getElem?_set_ne (Ne.symm hkz)]; exact h1, by omega, fun h => h3 fun z2 => h (List.mem_cons_of_mem _ z2)⟩
        have zlt : z < (rs.map hD).length := by rw [List.length_map, hrl]; exact hzL
        walk_at "wh"
        refine ⟨_, atI_map hn1, ?_⟩
        walk_at "wh"
        refine decI (fun h => ?_) (fun h => ?_)
        · walk_at "wh"
          refine ⟨a4, b4, 2, rfl, hp4, by decide, by decide, fun x5 a5 b5 hx5 hp5 => ?_⟩
          walk_at "wh"
          refine decI (fun h2 => ?_) (fun h2 => ?_)
          · walk_at "wh"
            refine ⟨hv n, hv sh, 1, 20, 20, rfl, hv_fit (by omega), hv_fit (by omega), by decide, .inl rfl, ?_⟩
            rw [hv_step]
            walk_at "wh"
            refine ⟨z, ixN_nat zlt, ?_⟩
            exact fin sh 1 a5 b5 _ (by omega) (.inl rfl) hp5
          · walk_at "wh"
            refine ⟨hv n, hv sh, -1, 20, 20, rfl, hv_fit (by omega), hv_fit (by omega), by decide, .inr rfl, ?_⟩
            rw [hv_step]
            walk_at "wh"
            refine ⟨z, ixN_nat zlt, ?_⟩
            exact fin sh (-1) a5 b5 _ (by omega) (.inr rfl) hp5
        · have h : ¬ decide (((most : Nat) : Int) = 0) = true := h
          have hm1 : 1 ≤ most := by
            rcases Nat.eq_zero_or_pos most with z0 | z0
            · subst z0; exact absurd rfl h
            · exact z0
          walk_at "wh"
          refine ⟨a4, b4, most, rfl, hp4, hm1, by omega, fun x6 a6 b6 hx6 hp6 => ?_⟩
          walk_at "wh"
          refine ⟨1 + ((x6 : Nat) : Int), 1, rfl, by decide, Nat.one_lt_two_pow (by decide), ?_⟩
          rw [hv_one]
          walk_at "wh"
          refine ⟨a6, b6, 2, rfl, hp6, by decide, by decide, fun x5 a5 b5 hx5 hp5 => ?_⟩
          walk_at "wh"
          refine decI (fun h2 => ?_) (fun h2 => ?_)
          · walk_at "wh"
            refine ⟨hv n, hv (2 * (1 + ((x6 : Nat) : Int))), 1, 20, 20, rfl, hv_fit (by omega), hv_fit (by omega), by decide, .inl rfl, ?_⟩
            rw [hv_step]
            walk_at "wh"
            refine ⟨z, ixN_nat zlt, ?_⟩
            exact fin (2 * (1 + ((x6 : Nat) : Int))) 1 a5 b5 _ (by omega) (.inl rfl) hp5
          · walk_at "wh"
            refine ⟨hv n, hv (2 * (1 + ((x6 : Nat) : Int))), -1, 20, 20, rfl, hv_fit (by omega), hv_fit (by omega), by decide, .inr rfl, ?_⟩
            rw [hv_step]
            walk_at "wh"
            refine ⟨z, ixN_nat zlt, ?_⟩
            exact fin (2 * (1 + ((x6 : Nat) : Int))) (-1) a5 b5 _ (by omega) (.inr rfl) hp5
      · rintro env ⟨a, b, rs, ls, o11, o12, Wr, rfl, hp, hrl, hWr, hls, hlt, hrd⟩
        have hcnt : (rngD 0 ((fun i j : Int => if j < i then j else i) ((lies : Nat) : Int) ((natD left).length : Nat))).length ≤ lies := by
          rw [rngD_len]
          dsimp only
          split <;> omega
        generalize (rngD 0 ((fun i j : Int => if j < i then j else i) ((lies : Nat) : Int) ((natD left).length : Nat))).length = cnt at hcnt hWr hls hrd
        have hW2 : Wr.length ≤ lies := by omega
        walk_at "go"
        refine ⟨fun j env => ∃ (R : List (Option Int)) (o11 : Option O), env = [some (plD a b), some (.d (lvD ns L)), some (.d (natsD bl)), some (.d (.int (lies : Nat))), some (.d (.int (most : Nat))), some (.own (hs.map hD)), none, some (.own (R.map rdD)), none, some (.d (hD sh)), some (.own (natD ls)), o11, o12] ∧ R.length = L.length ∧ ∀ k, k < L.length → (k ∈ bl.take j → R[k]? = some none) ∧ (k ∉ bl.take j → R[k]? = (rs[k]?).map some), ⟨rs.map some, _, by rw [List.map_map]; rfl, by rw [List.length_map]; exact hrl, fun k hk => ⟨fun h => by simp at h, fun _ => List.getElem?_map⟩⟩, ?_, ?_⟩
        · rintro j x env hx ⟨R, o11, rfl, hRl, hR⟩
          obtain ⟨k, hk, rfl⟩ := get_map hx
          have hkL := hbl k (List.mem_of_getElem? hk)
          walk_at "wh"
          refine ⟨k, ixN_nat (by rw [List.length_map, hRl]; exact hkL), ?_⟩
          walk_at "wh"
          refine ⟨R.set k none, _, by rw [show (R.set k none).map rdD = (R.map rdD).set k .none from List.map_set]; rfl, by rw [List.length_set]; exact hRl, fun k2 hk2 => ?_⟩
          have hmem : k2 ∈ bl.take (j + 1) ↔ k2 ∈ bl.take j ∨ k2 = k := by
            rw [List.take_add_one, hk, List.mem_append]
            simp
          by_cases q2 : k2 = k
          · subst q2
            rw [List.getElem?_set_self (by omega)]
            exact ⟨fun _ => rfl, fun h => absurd (hmem.mpr (.inr rfl)) h⟩
          · rw [List.getElem?_set_ne (Ne.symm q2)]
            refine ⟨fun h => (hR k2 hk2).1 ((hmem.mp h).resolve_right q2), fun h => (hR k2 hk2).2 fun z => h (hmem.mpr (.inl z))⟩
        · rintro env ⟨R, o11, rfl, hRl, hR⟩
          rw [natD_len, List.take_length] at hR
          walk_at "wh"
          refine ⟨(by decide : 2 ≤ sizeLine), ?_⟩
          walk_at "wh"
          refine q hs R Wr a b hi hb ⟨hRl, fun k hk hkb => (hR k hk).1 hkb, fun k l hkl hkb => ?_⟩ hW2 hp
          obtain ⟨n, h1, h2, h3⟩ := hrd k l hkl
          have hkL := (List.getElem?_eq_some_iff.mp hkl).1
          refine ⟨n, by rw [(hR k hkL).2 hkb, h1]; rfl, by omega, fun h => ?_⟩
          rw [h3 h]
          omega
    · dsimp only
      rw [natD_len]
      split <;> omega
    · dsimp only
      split <;> omega
    · trivial
  · rw [e2]; omega
  · rw [e2]; omega
theorem f_law_lies {P : Program} {w : World} {K : Fg} {mg : Str → Option Value} {base : Heap} {f : Addr} {fd : FuncData} (g : Gs K mg) (h_law_draw : Has P w K mg base "_law_draw" ["pool", "many"] 1 sp_law_draw) (h_law_quotient : Has P w K mg base "_law_quotient" ["number", "other"] 1 sp_law_quotient) (h_law_plus : Has P w K mg base "_law_plus" ["one", "other", "sign"] 2 sp_law_plus) (F : Fun K "_law_lies" "_law_lies" s_law_lies f fd) : FnOk P w K mg base CX0 3 f fd ["pool", "levels", "blanks", "lies", "most"] (SpOf K sp_law_lies) :=
  fn_ok F sc_law_lies [0] (fun cdv A outer s H E hr => q_law_lies g h_law_draw h_law_quotient h_law_plus cdv A outer s H E hr) (by walk_at "len") (by walk_at "keep") m_law_lies
theorem mono_law_lies : sp_law_lies.Mono := by walk_at "mono"

end K76
set_option Elab.async false
set_option linter.all false
set_option maxRecDepth 100000
set_option maxHeartbeats 1000000
set_option exponentiation.threshold 20000
set_option pp.deepTerms false
set_option pp.maxSteps 500
namespace K76
open PySem PySem.Spec PyProof.Rows L2 Pf
local macro_rules | `(tactic| walk_at "go") => `(tactic| (conv => whnf) <;> repeat ((first | refine atE rfl ?_ | refine andR ?_ ?_); (conv => whnf)))
local macro_rules | `(tactic| walk_at "wh") => `(tactic| conv => whnf)
local macro_rules | `(tactic| walk_at "len") => `(tactic| (intro os Q h; (repeat (obtain ⟨_, h⟩ := h)); subst_vars; rfl))
local macro_rules | `(tactic| walk_at "keep") => `(tactic| (intro os Q h; (repeat (obtain ⟨_, h⟩ := h)); subst_vars; simp [keepOk]))
local macro_rules | `(tactic| walk_at "mono") => `(tactic| (intro os k k' f; repeat (first | exact f _ _ | refine Exists.imp fun _ => ?_ | refine And.imp_right ?_ | refine forall_imp fun _ => ?_)))
/-! what the votes rest on: no program -/
open Fl (Net)
theorem est_chain {N : Net} {R : List (Option Int)} {H : Nat → Int} : ∀ {W : List (Nat × Int)} {b e : Nat}, N.Chain b W e → (∀ s ∈ W, s.2 * rd R s.1 = H (N.fin s) - H (N.beg s)) → est R W = H e - H b
  | [], b, e, c, _ => by
    have c : b = e := c
    subst c
    show (0 : Int) = _
    omega
  | s :: W, b, e, c, h => by
    have ih := est_chain c.2 fun s hs => h s (List.mem_cons_of_mem _ hs)
    have h1 := h s List.mem_cons_self
    have e1 : est R (s :: W) = s.2 * rd R s.1 + est R W := by
      unfold est
      rw [List.map_cons, List.sum_cons]
    rw [e1, ih, h1, c.1]
    omega
theorem est_right {L : List Ln} {bl : List Nat} {Hs : List Int} {R : List (Option Int)} {Wr : List Nat} {b e : Nat} {W : List (Nat × Int)} (Li : Lies L bl Hs R Wr) (w : (netOf L bl).Way b e W) (hb : ∀ s ∈ W, (netOf L bl).bl s.1 = false) (hw : ∀ s ∈ W, s.1 ∉ Wr) : est R W = Hs.getD e 0 - Hs.getD b 0 := by
  refine est_chain (H := fun v => Hs.getD v 0) w.chain fun s hs => ?_
  have ok := w.ok s hs
  have ok1 : s.1 < L.length := ok.1
  obtain ⟨l, hl, _⟩ := getAt ok1
  have hbs : s.1 ∉ bl := fun z => by
    have := hb s hs
    have h2 : bl.contains s.1 = true := List.contains_iff_mem.mpr z
    rw [show (netOf L bl).bl s.1 = bl.contains s.1 from rfl, h2] at this
    cases this
  obtain ⟨n, h1, h2, h3⟩ := Li.rd s.1 l hl hbs
  rw [rd_at h1, h3 (hw s hs)]
  unfold Fl.Net.fin Fl.Net.beg
  rw [net_t hl, net_h hl]
  rcases ok.2 with z | z <;> rw [z] <;> simp <;> omega
def badW (Wr : List Nat) (W : List (Nat × Int)) : Bool := W.any fun s => Wr.contains s.1
theorem bad_le : ∀ (Ws : List (List (Nat × Int))) (Wr : List Nat), (linesOf Ws).Nodup → (Ws.filter (badW Wr)).length ≤ Wr.length
  | [], _, _ => Nat.zero_le _
  | W :: Ws, Wr, nd => by
    have e1 : linesOf (W :: Ws) = W.map (·.1) ++ linesOf Ws := rfl
    rw [e1] at nd
    obtain ⟨n1, n2, n3⟩ := List.nodup_append.mp nd
    cases hb : badW Wr W with
    | false =>
      rw [List.filter_cons_of_neg (by rw [hb]; decide)]
      exact bad_le Ws Wr n2
    | true =>
      obtain ⟨s, hs, hc⟩ := List.any_eq_true.mp hb
      have hk : s.1 ∈ Wr := List.contains_iff_mem.mp hc
      have hc2 : Ws.filter (badW Wr) = Ws.filter (badW (Wr.erase s.1)) := by
        refine List.filter_congr fun V hV => ?_
        unfold badW
        rw [Bool.eq_iff_iff, List.any_eq_true, List.any_eq_true]
        have out : ∀ r ∈ V, r.1 ≠ s.1 := fun r hr z => n3 s.1 (List.mem_map.mpr ⟨s, hs, rfl⟩) r.1 (List.mem_flatten.mpr ⟨V.map (·.1), List.mem_map.mpr ⟨V, hV, rfl⟩, List.mem_map.mpr ⟨r, hr, rfl⟩⟩) z.symm
        constructor
        · rintro ⟨r, hr, h⟩
          exact ⟨r, hr, List.contains_iff_mem.mpr ((List.mem_erase_of_ne (out r hr)).mpr (List.contains_iff_mem.mp h))⟩
        · rintro ⟨r, hr, h⟩
          exact ⟨r, hr, List.contains_iff_mem.mpr (List.mem_of_mem_erase (List.contains_iff_mem.mp h))⟩
      rw [List.filter_cons_of_pos hb, List.length_cons, hc2]
      have ih := bad_le Ws (Wr.erase s.1) n2
      have hpos := List.length_pos_of_mem hk
      rw [List.length_erase_of_mem hk] at ih
      omega
theorem right_many {L : List Ln} {bl : List Nat} {Hs : List Int} {R : List (Option Int)} {Wr : List Nat} {b e lies : Nat} {Ws : List (List (Nat × Int))} (Li : Lies L bl Hs R Wr) (G : Good (netOf L bl) b e Ws) (h1 : Wr.length ≤ lies) (h2 : 2 * lies < Ws.length) : Ws.length < 2 * (Ws.map (est R)).count (Hs.getD e 0 - Hs.getD b 0) := by
  have h3 := bad_le Ws Wr G.nd
  have key : ∀ Vs : List (List (Nat × Int)), (∀ V ∈ Vs, V ∈ Ws) → Vs.length ≤ (Vs.filter (badW Wr)).length + (Vs.map (est R)).count (Hs.getD e 0 - Hs.getD b 0) := by
    intro Vs
    induction Vs with
    | nil => intro _; simp
    | cons V Vs ih =>
      intro hV
      have h4 := ih fun X hX => hV X (List.mem_cons_of_mem _ hX)
      have hm := hV V List.mem_cons_self
      rw [List.map_cons, List.count_cons, List.length_cons]
      cases hb : badW Wr V with
      | true =>
        rw [List.filter_cons_of_pos hb, List.length_cons]
        omega
      | false =>
        rw [List.filter_cons_of_neg (by rw [hb]; decide)]
        have er := est_right Li (G.way V hm) (G.bl V hm) fun s hs z => by
          have : badW Wr V = true := List.any_eq_true.mpr ⟨s, hs, List.contains_iff_mem.mpr z⟩
          rw [hb] at this
          cases this
        rw [er, beq_self_eq_true, if_pos rfl]
        omega
  have h5 := key Ws fun V h => h
  omega
theorem read_of {L : List Ln} {bl : List Nat} {Hs : List Int} {R : List (Option Int)} {Wr : List Nat} {b e : Nat} {Ws : List (List (Nat × Int))} (Li : Lies L bl Hs R Wr) (G : Good (netOf L bl) b e Ws) (hL : ∀ l ∈ L, l.2.1 < 12 ∧ l.2.2 < 12) (hb : b < 12) : Read R Ws := fun W hW => by
  refine ⟨Nat.le_trans (way_few hL hb (G.way W hW)) (by decide), fun s hs => ?_⟩
  have ok := (G.way W hW).ok s hs
  have ok1 : s.1 < L.length := ok.1
  obtain ⟨l, hl, _⟩ := getAt ok1
  have hbs : s.1 ∉ bl := fun z => by
    have := G.bl W hW s hs
    have h2 : bl.contains s.1 = true := List.contains_iff_mem.mpr z
    rw [show (netOf L bl).bl s.1 = bl.contains s.1 from rfl, h2] at this
    cases this
  obtain ⟨n, h1, h2, _⟩ := Li.rd s.1 l hl hbs
  exact ⟨ok.2, n, h1, h2⟩
end K76
set_option Elab.async false
set_option linter.all false
set_option maxRecDepth 100000
set_option maxHeartbeats 1000000
set_option exponentiation.threshold 20000
set_option pp.deepTerms false
set_option pp.maxSteps 500
namespace K76
open PySem PySem.Spec PyProof.Rows L2 Pf
local macro_rules | `(tactic| walk_at "go") => `(tactic| (conv => whnf) <;> repeat ((first | refine atE rfl ?_ | refine andR ?_ ?_); (conv => whnf)))
local macro_rules | `(tactic| walk_at "wh") => `(tactic| conv => whnf)
local macro_rules | `(tactic| walk_at "len") => `(tactic| (intro os Q h; (repeat (obtain ⟨_, h⟩ := h)); subst_vars; rfl))
local macro_rules | `(tactic| walk_at "keep") => `(tactic| (intro os Q h; (repeat (obtain ⟨_, h⟩ := h)); subst_vars; simp [keepOk]))
local macro_rules | `(tactic| walk_at "mono") => `(tactic| (intro os k k' f; repeat (first | exact f _ _ | refine Exists.imp fun _ => ?_ | refine And.imp_right ?_ | refine forall_imp fun _ => ?_)))
/-! the pairs of a family -/
def prD (p : Nat × Nat) : D := .tuple [.int (p.1 : Nat), .int (p.2 : Nat)]
def sp_law_pairs : FSp := fun os Q => ∃ (a b : Int) (kind size : Nat), os = [plD a b, .d (.int (kind : Nat)), .d (.int (size : Nat))] ∧ PlOk a b ∧ kind < 6 ∧ 1 ≤ size ∧ size ≤ 5 ∧
  ∀ (many : Nat) (ps : List (Nat × Nat)) (a' b' : Int), 2 ≤ many → many ≤ 7 → (∀ p ∈ ps, p.1 < many ∧ p.2 < many) → ps.length ≤ 60 → PlOk a' b' → Q (.d (.tuple [.int (many : Nat), .list (ps.map prD)])) [plD a' b', .d (.int (kind : Nat)), .d (.int (size : Nat))]
/-! ### _law_pairs -/
abbrev s_law_pairs : Stmt := topS 36
abbrev n_law_pairs : List Str := ["pool", "kind", "size", "k", "wide", "pairs", "many", "n", "half", "pair"]
theorem sc_law_pairs : FnScope n_law_pairs ["pool", "kind", "size"] (defScope s_law_pairs) := ⟨rfl, rfl, rfl, by decide +kernel, rfl, by decide +kernel, by decide +kernel⟩
def r_law_pairs : RS := (rSeq (rIfS (rCmp (dEq false) (rN 1) (rP (rC (.int 0)))) (rRet (rO (rTup (rCons (rD (rOp dAdd (rN 2) (rP (rC (.int 2))))) (rCons (rD (rLc (rRng1 (rD (rOp dAdd (rN 2) (rP (rC (.int 2)))))) (rGn 3) rYes (rTup (rCons (rVar 3) (rCons (rD (rOp bMod (rP (rD (rCB fInt (rACons (rP (rD (rOp dAdd (rN 3) (rP (rC (.int 1)))))) rANil)))) (rP (rD (rOp dAdd (rN 2) (rP (rC (.int 2)))))))) rNil))) [3])) rNil))))) rNext)
  (rSeq (rIfS (rCmp (dEq false) (rN 1) (rP (rC (.int 1)))) (rSeq (rSet 4 (rOp dAdd (rP (rC (.int 2))) (rP (rD (rOp bFdiv (rN 2) (rP (rC (.int 3))))))))
  (rSeq (rSet 5 (rOp dAdd (rP (rD (rLc (rRng1 (rD (rOp dMul (rP (rC (.int 2))) (rN 4)))) (rGn 3) (rCmp bGt (rP (rD (rOp bMod (rP (rD (rCB fInt (rACons (rP (rD (rOp dAdd (rN 3) (rP (rC (.int 1)))))) rANil)))) (rN 4)))) (rP (rC (.int 0)))) (rTup (rCons (rVar 3) (rCons (rD (rOp dAdd (rN 3) (rP (rC (.int 1))))) rNil))) [3]))) (rP (rD (rLc (rRng1 (rVar 4)) (rGn 3) rYes (rTup (rCons (rVar 3) (rCons (rD (rOp dAdd (rN 3) (rN 4))) rNil))) [3])))))
  (rRet (rO (rTup (rCons (rD (rOp dMul (rP (rC (.int 2))) (rN 4))) (rCons (rVar 5) rNil))))))) rNext)
  (rSeq (rIfS (rCmp (dEq false) (rN 1) (rP (rC (.int 2)))) (rSeq (rSet 6 (rOp dAdd (rP (rC (.int 2))) (rP (rD (rCB fMin2 (rACons (rN 2) (rACons (rP (rC (.int 4))) rANil)))))))
  (rSeq (rSet 5 (rLst rNil))
  (rSeq (rFor (rRng1 (rVar 6)) (rGn 3) (rSet 5 (rOp dAdd (rN 5) (rP (rD (rLc (rRng1 (rVar 3)) (rGn 7) rYes (rTup (rCons (rVar 3) (rCons (rVar 7) rNil))) [7]))))))
  (rRet (rO (rTup (rCons (rVar 6) (rCons (rVar 5) rNil)))))))) rNext)
  (rSeq (rIfS (rCmp (dEq false) (rN 1) (rP (rC (.int 3)))) (rSeq (rSet 8 (rOp dAdd (rP (rC (.int 2))) (rP (rD (rCB fInt (rACons (rP (rTV (rCmp bGt (rN 2) (rP (rC (.int 3)))))) rANil))))))
  (rSeq (rSet 5 (rLst rNil))
  (rSeq (rFor (rRng1 (rVar 8)) (rGn 3) (rSet 5 (rOp dAdd (rP (rD (rOp dAdd (rN 5) (rP (rD (rLc (rRng1 (rVar 3)) (rGn 7) rYes (rTup (rCons (rVar 3) (rCons (rVar 7) rNil))) [7])))))) (rP (rD (rLc (rRng1 (rVar 3)) (rGn 7) rYes (rTup (rCons (rD (rOp dAdd (rN 8) (rN 3))) (rCons (rD (rOp dAdd (rN 8) (rN 7))) rNil))) [7]))))))
  (rRet (rO (rTup (rCons (rD (rOp dMul (rP (rC (.int 2))) (rN 8))) (rCons (rD (rOp dAdd (rN 5) (rP (rD (rLc (rRng1 (rD (rOp dAdd (rP (rC (.int 1))) (rP (rD (rCall sp_law_draw (rACons (rN 0) (rACons (rP (rC (.int 4))) rANil)))))))) (rGn 3) rYes (rTup (rCons (rD (rCall sp_law_draw (rACons (rN 0) (rACons (rN 8) rANil)))) (rCons (rD (rOp dAdd (rN 8) (rP (rD (rCall sp_law_draw (rACons (rN 0) (rACons (rN 8) rANil))))))) rNil))) [3]))))) rNil)))))))) rNext)
  (rSeq (rIfS (rCmp (dEq false) (rN 1) (rP (rC (.int 4)))) (rSeq (rSet 6 (rOp dAdd (rP (rC (.int 2))) (rP (rD (rCall sp_law_draw (rACons (rN 0) (rACons (rP (rC (.int 2))) rANil)))))))
  (rRet (rO (rTup (rCons (rD (rOp dAdd (rN 6) (rP (rC (.int 1))))) (rCons (rD (rLc (rRng1 (rD (rOp dAdd (rN 2) (rP (rC (.int 3)))))) (rGn 3) rYes (rTup (rCons (rD (rCall sp_law_draw (rACons (rN 0) (rACons (rN 6) rANil)))) (rCons (rVar 6) rNil))) [3])) rNil)))))) rNext)
  (rSeq (rSet 6 (rOp dAdd (rP (rC (.int 2))) (rP (rD (rCall sp_law_draw (rACons (rN 0) (rACons (rN 2) rANil)))))))
  (rSeq (rSet 5 (rLc (rRng1 (rD (rOp dAdd (rP (rC (.int 1))) (rP (rD (rCall sp_law_draw (rACons (rN 0) (rACons (rP (rD (rOp dAdd (rN 2) (rP (rC (.int 5)))))) rANil)))))))) (rGn 3) rYes (rTup (rCons (rD (rCall sp_law_draw (rACons (rN 0) (rACons (rN 6) rANil)))) (rCons (rD (rCall sp_law_draw (rACons (rN 0) (rACons (rN 6) rANil)))) rNil))) [3]))
  (rRet (rO (rTup (rCons (rVar 6) (rCons (rD (rLc (rFs (rVar 5)) (rGn 9) (rCmp (dEq true) (rP (rD (rOp dIx (rN 9) (rP (rC (.int 0)))))) (rP (rD (rOp dIx (rN 9) (rP (rC (.int 1))))))) (rVar 9) [9])) rNil))))))))))))
theorem q_law_pairs {P : Program} {w : World} {K : Fg} {mg : Str → Option Value} {base : Heap} {f : Addr} (g : Gs K mg) (h_law_draw : Has P w K mg base "_law_draw" ["pool", "many"] 1 sp_law_draw) (cdv : Value) (A : Around) (outer : List PySem.Env) (s : Shared) (H : Hp) (E : XK) (hr : Room 1 (A.deeper (envOfC "_law_pairs" (defScope s_law_pairs) s.heap.objs.size f cdv))) :
    QSs (cxOf CX0 P w K mg base n_law_pairs "_law_pairs" (defScope s_law_pairs) f cdv A outer s H E).nox [0] (defBody s_law_pairs) r_law_pairs :=
  (qss_cons (qs_if (qt_eq hr.units (qp_var 1) (qv_int).p) (qss_one (qs_ret (QV.o (qv_tup (ql_cons (QE.v (qe_add (qp_var 2) (qv_int).p)) (ql_cons (QE.v (qe_lc (own := [("k", 3)]) rfl sc_law_pairs.nd (qf_range1 g.range (QE.v (qe_add (qp_var 2) (qv_int).p))) (blkOk_by (by rfl)) (fun _ _ _ _ _ => (qg_name 3 sc_law_pairs.nd)) (fun _ _ _ _ _ => qts_nil) (fun _ _ _ _ _ => (qv_tup (ql_cons (qv_var 3) (ql_cons (QE.v (qe_mod ((QE.v (qe_int g.int (qa_cons ((QE.v (qe_add (qp_var 3) (qv_int).p))).p qa_nil)))).p ((QE.v (qe_add (qp_var 2) (qv_int).p))).p)) ql_nil)))))) ql_nil)))))) qss_nil)
  (qss_cons (qs_if (qt_eq hr.units (qp_var 1) (qv_int).p) (qss_cons (qs_set 4 sc_law_pairs.nd (qe_add (qv_int).p ((QE.v (qe_fdiv (qp_var 2) (qv_int).p))).p))
  (qss_cons (qs_set 5 sc_law_pairs.nd (qe_add ((QE.v (qe_lc (own := [("k", 3)]) rfl sc_law_pairs.nd (qf_range1 g.range (QE.v (qe_mul (qv_int).p (qp_var 4)))) (blkOk_by (by rfl)) (fun _ _ _ _ _ => (qg_name 3 sc_law_pairs.nd)) (fun _ _ _ _ _ => (qts_one (qt_gt ((QE.v (qe_mod ((QE.v (qe_int g.int (qa_cons ((QE.v (qe_add (qp_var 3) (qv_int).p))).p qa_nil)))).p (qp_var 4)))).p (qv_int).p))) (fun _ _ _ _ _ => (qv_tup (ql_cons (qv_var 3) (ql_cons (QE.v (qe_add (qp_var 3) (qv_int).p)) ql_nil))))))).p ((QE.v (qe_lc (own := [("k", 3)]) rfl sc_law_pairs.nd (qf_range1 g.range (qv_var 4)) (blkOk_by (by rfl)) (fun _ _ _ _ _ => (qg_name 3 sc_law_pairs.nd)) (fun _ _ _ _ _ => qts_nil) (fun _ _ _ _ _ => (qv_tup (ql_cons (qv_var 3) (ql_cons (QE.v (qe_add (qp_var 3) (qp_var 4))) ql_nil))))))).p))
  (qss_one (qs_ret (QV.o (qv_tup (ql_cons (QE.v (qe_mul (qv_int).p (qp_var 4))) (ql_cons (qv_var 5) ql_nil)))))))) qss_nil)
  (qss_cons (qs_if (qt_eq hr.units (qp_var 1) (qv_int).p) (qss_cons (qs_set 6 sc_law_pairs.nd (qe_add (qv_int).p ((QE.v (qe_min2 rfl g.min (qa_cons (qp_var 2) (qa_cons (qv_int).p qa_nil))))).p))
  (qss_cons (qs_set 5 sc_law_pairs.nd (qe_lst ql_nil))
  (qss_cons (qs_for PassesOwn.never rfl (qf_range1 g.range (qv_var 6)) (qg_name 3 sc_law_pairs.nd) (qss_one (qs_set 5 sc_law_pairs.nd (qe_add (qp_var 5) ((QE.v (qe_lc (own := [("n", 7)]) rfl sc_law_pairs.nd (qf_range1 g.range (qv_var 3)) (blkOk_by (by rfl)) (fun _ _ _ _ _ => (qg_name 7 sc_law_pairs.nd)) (fun _ _ _ _ _ => qts_nil) (fun _ _ _ _ _ => (qv_tup (ql_cons (qv_var 3) (ql_cons (qv_var 7) ql_nil))))))).p))))
  (qss_one (qs_ret (QV.o (qv_tup (ql_cons (qv_var 6) (ql_cons (qv_var 5) ql_nil))))))))) qss_nil)
  (qss_cons (qs_if (qt_eq hr.units (qp_var 1) (qv_int).p) (qss_cons (qs_set 8 sc_law_pairs.nd (qe_add (qv_int).p ((QE.v (qe_int g.int (qa_cons ((qv_gt (qp_var 2) (qv_int).p)).p qa_nil)))).p))
  (qss_cons (qs_set 5 sc_law_pairs.nd (qe_lst ql_nil))
  (qss_cons (qs_for PassesOwn.never rfl (qf_range1 g.range (qv_var 8)) (qg_name 3 sc_law_pairs.nd) (qss_one (qs_set 5 sc_law_pairs.nd (qe_add ((QE.v (qe_add (qp_var 5) ((QE.v (qe_lc (own := [("n", 7)]) rfl sc_law_pairs.nd (qf_range1 g.range (qv_var 3)) (blkOk_by (by rfl)) (fun _ _ _ _ _ => (qg_name 7 sc_law_pairs.nd)) (fun _ _ _ _ _ => qts_nil) (fun _ _ _ _ _ => (qv_tup (ql_cons (qv_var 3) (ql_cons (qv_var 7) ql_nil))))))).p))).p ((QE.v (qe_lc (own := [("n", 7)]) rfl sc_law_pairs.nd (qf_range1 g.range (qv_var 3)) (blkOk_by (by rfl)) (fun _ _ _ _ _ => (qg_name 7 sc_law_pairs.nd)) (fun _ _ _ _ _ => qts_nil) (fun _ _ _ _ _ => (qv_tup (ql_cons (QE.v (qe_add (qp_var 8) (qp_var 3))) (ql_cons (QE.v (qe_add (qp_var 8) (qp_var 7))) ql_nil))))))).p))))
  (qss_one (qs_ret (QV.o (qv_tup (ql_cons (QE.v (qe_mul (qv_int).p (qp_var 8))) (ql_cons (QE.v (qe_add (qp_var 5) ((QE.v (qe_lc (own := [("k", 3)]) rfl sc_law_pairs.nd (qf_range1 g.range (QE.v (qe_add (qv_int).p ((QE.v (qe_call h_law_draw (hr.mono (by decide)) (qa_cons (qp_var 0) (qa_cons (qv_int).p qa_nil))))).p))) (blkOk_by (by rfl)) (fun _ _ _ _ _ => (qg_name 3 sc_law_pairs.nd)) (fun _ _ _ _ _ => qts_nil) (fun _ _ _ _ _ => (qv_tup (ql_cons (QE.v (qe_call h_law_draw (hr.mono (by decide)) (qa_cons (qp_var 0) (qa_cons (qp_var 8) qa_nil)))) (ql_cons (QE.v (qe_add (qp_var 8) ((QE.v (qe_call h_law_draw (hr.mono (by decide)) (qa_cons (qp_var 0) (qa_cons (qp_var 8) qa_nil))))).p)) ql_nil))))))).p)) ql_nil))))))))) qss_nil)
  (qss_cons (qs_if (qt_eq hr.units (qp_var 1) (qv_int).p) (qss_cons (qs_set 6 sc_law_pairs.nd (qe_add (qv_int).p ((QE.v (qe_call h_law_draw (hr.mono (by decide)) (qa_cons (qp_var 0) (qa_cons (qv_int).p qa_nil))))).p))
  (qss_one (qs_ret (QV.o (qv_tup (ql_cons (QE.v (qe_add (qp_var 6) (qv_int).p)) (ql_cons (QE.v (qe_lc (own := [("k", 3)]) rfl sc_law_pairs.nd (qf_range1 g.range (QE.v (qe_add (qp_var 2) (qv_int).p))) (blkOk_by (by rfl)) (fun _ _ _ _ _ => (qg_name 3 sc_law_pairs.nd)) (fun _ _ _ _ _ => qts_nil) (fun _ _ _ _ _ => (qv_tup (ql_cons (QE.v (qe_call h_law_draw (hr.mono (by decide)) (qa_cons (qp_var 0) (qa_cons (qp_var 6) qa_nil)))) (ql_cons (qv_var 6) ql_nil)))))) ql_nil))))))) qss_nil)
  (qss_cons (qs_set 6 sc_law_pairs.nd (qe_add (qv_int).p ((QE.v (qe_call h_law_draw (hr.mono (by decide)) (qa_cons (qp_var 0) (qa_cons (qp_var 2) qa_nil))))).p))
  (qss_cons (qs_setLc (own := [("k", 3)]) 5 rfl sc_law_pairs.nd (qf_range1 g.range (QE.v (qe_add (qv_int).p ((QE.v (qe_call h_law_draw (hr.mono (by decide)) (qa_cons (qp_var 0) (qa_cons ((QE.v (qe_add (qp_var 2) (qv_int).p))).p qa_nil))))).p))) (blkOk_by (by rfl)) (fun _ _ _ _ _ => (qg_name 3 sc_law_pairs.nd)) (fun _ _ _ _ _ => qts_nil) (fun _ _ _ _ _ => (qv_tup (ql_cons (QE.v (qe_call h_law_draw (hr.mono (by decide)) (qa_cons (qp_var 0) (qa_cons (qp_var 6) qa_nil)))) (ql_cons (QE.v (qe_call h_law_draw (hr.mono (by decide)) (qa_cons (qp_var 0) (qa_cons (qp_var 6) qa_nil)))) ql_nil)))))
  (qss_one (qs_ret (QV.o (qv_tup (ql_cons (qv_var 6) (ql_cons (QE.v (qe_lc (own := [("pair", 9)]) rfl sc_law_pairs.nd (qf_seq (qv_var 5)) (blkOk_by (by rfl)) (fun _ _ _ _ _ => (qg_name 9 sc_law_pairs.nd)) (fun _ _ _ _ _ => (qts_one (qt_ne hr.units ((qv_ix (qp_var 9) (qv_int).p)).p ((qv_ix (qp_var 9) (qv_int).p)).p))) (fun _ _ _ _ _ => (qv_var 9)))) ql_nil)))))))))))))

/-- pairs below a number -/
def PsOk (many : Nat) (ps : List (Nat × Nat)) : Prop := ∀ p ∈ ps, p.1 < many ∧ p.2 < many
theorem PsOk.snoc {many : Nat} {ps : List (Nat × Nat)} (h : PsOk many ps) {x y : Nat} (hx : x < many) (hy : y < many) : PsOk many (ps ++ [(x, y)]) := fun p hp => (List.mem_append.mp hp).elim (h p) fun z => by rw [List.mem_singleton.mp z]; exact ⟨hx, hy⟩
theorem PsOk.app {many : Nat} {ps qs : List (Nat × Nat)} (h : PsOk many ps) (h2 : PsOk many qs) : PsOk many (ps ++ qs) := fun p hp => (List.mem_append.mp hp).elim (h p) (h2 p)
theorem prD_snoc (ps : List (Nat × Nat)) (x y : Nat) : ps.map prD ++ [.tuple [.int (x : Nat), .int (y : Nat)]] = (ps ++ [(x, y)]).map prD := by rw [List.map_append]; rfl
theorem m_law_pairs (os : List O) (Q : O → List O → Prop) (h : sp_law_pairs os Q) : Ends r_law_pairs n_law_pairs os Q := by
  obtain ⟨a, b, kind, size, rfl, hp, hk, h1, h2, q⟩ := h
  have : kind = 0 ∨ kind = 1 ∨ kind = 2 ∨ kind = 3 ∨ kind = 4 ∨ kind = 5 := by omega
  have hs : size = 1 ∨ size = 2 ∨ size = 3 ∨ size = 4 ∨ size = 5 := by omega
  rcases this with rfl | rfl | rfl | rfl | rfl | rfl
  · walk_at "go"
    · refine ⟨fun i acc env => ∃ ps, env = [some (plD a b), some (.d (.int ((0 : Nat) : Int))), some (.d (.int (size : Nat))), none, none, none, none, none, none, none] ∧ acc = ps.map prD ∧ ps.length ≤ i ∧ PsOk (size + 2) ps, ⟨[], rfl, rfl, Nat.le_refl _, fun p h => (nomatch h)⟩, ?_, ?_⟩
      · rintro i x acc env hx ⟨ps, rfl, rfl, hpl, hps⟩
        obtain ⟨ex, hi⟩ := rngD_at hx
        subst ex
        obtain ⟨z, ez, hz⟩ := fm_ok (a := (0 : Int) + ((i : Nat) : Int) + 1) (show 1 ≤ size + 2 by omega)
        have ez : ((0 : Int) + ((i : Nat) : Int) + 1).fmod (((size : Nat) : Int) + 2) = (z : Nat) := ez
        walk_at "wh"
        refine ⟨by show ((size : Nat) : Int) + 2 ≠ 0; omega, ?_⟩
        walk_at "wh"
        refine ⟨(by decide : 2 ≤ sizeLine), ?_⟩
        walk_at "wh"
        refine ⟨by rw [List.length_map, sizeLine_eq]; omega, ps ++ [(i, z)], rfl, ?_, by rw [List.length_append, List.length_singleton]; omega, hps.snoc (by omega) hz⟩
        rw [← prD_snoc]
        rw [ez, Int.zero_add]
      · rintro acc env ⟨ps, rfl, rfl, hpl, hps⟩
        rw [rngD_len] at hpl
        walk_at "wh"
        refine ⟨(by decide : 2 ≤ sizeLine), ?_⟩
        walk_at "wh"
        exact q (size + 2) ps a b (by omega) (by omega) hps (by omega) hp
    · omega
    · omega
  · obtain ⟨v, ev, v2⟩ : ∃ v : Nat, ((size : Nat) : Int).fdiv 3 = (v : Nat) ∧ v ≤ 1 := by
      rcases hs with rfl | rfl | rfl | rfl | rfl
      · exact ⟨0, by decide, by decide⟩
      · exact ⟨0, by decide, by decide⟩
      · exact ⟨1, by decide, by decide⟩
      · exact ⟨1, by decide, by decide⟩
      · exact ⟨1, by decide, by decide⟩
    walk_at "wh"
    refine ⟨⟨by decide, by decide⟩, ?_⟩
    dsimp only
    rw [ev]
    walk_at "go"
    · refine ⟨fun i acc env => ∃ ps, env = [some (plD a b), some (.d (.int ((1 : Nat) : Int))), some (.d (.int (size : Nat))), none, some (.d (.int (2 + v : Nat))), none, none, none, none, none] ∧ acc = ps.map prD ∧ ps.length ≤ i ∧ PsOk (2 * (2 + v)) ps, ⟨[], rfl, rfl, Nat.le_refl _, fun p h => (nomatch h)⟩, ?_, ?_⟩
      · rintro i x acc env hx ⟨ps, rfl, rfl, hpl, hps⟩
        obtain ⟨ex, hi⟩ := rngD_at hx
        subst ex
        walk_at "wh"
        refine ⟨by show ((2 + v : Nat) : Int) ≠ 0; omega, ?_⟩
        walk_at "wh"
        refine decI (fun h => ?_) (fun h => ?_)
        · have h : decide (0 < ((0 : Int) + ((i : Nat) : Int) + 1).fmod ((2 + v : Nat) : Int)) = true := h
          have h := of_decide_eq_true h
          have hlt : i + 1 < 2 * (2 + v) := by
            refine Decidable.byContradiction fun z => ?_
            have e : (0 : Int) + ((i : Nat) : Int) + 1 = ((2 * (2 + v) : Nat) : Int) := by omega
            rw [e] at h
            have : v = 0 ∨ v = 1 := by omega
            rcases this with rfl | rfl
            · exact absurd h (by decide)
            · exact absurd h (by decide)
          walk_at "wh"
          refine ⟨(by decide : 2 ≤ sizeLine), ?_⟩
          walk_at "wh"
          refine ⟨by rw [List.length_map, sizeLine_eq]; omega, ps ++ [(i, i + 1)], rfl, ?_, by rw [List.length_append, List.length_singleton]; omega, hps.snoc (by omega) (by omega)⟩
          rw [← prD_snoc, Int.zero_add]
          rfl
        · walk_at "wh"
          exact ⟨ps, rfl, rfl, by omega, hps⟩
      · rintro acc env ⟨ps, rfl, rfl, hpl, hps⟩
        rw [rngD_len] at hpl
        walk_at "go"
        · refine ⟨fun i acc env => ∃ qs, env = [some (plD a b), some (.d (.int ((1 : Nat) : Int))), some (.d (.int (size : Nat))), none, some (.d (.int (2 + v : Nat))), none, none, none, none, none] ∧ acc = qs.map prD ∧ qs.length ≤ i ∧ PsOk (2 * (2 + v)) qs, ⟨[], rfl, rfl, Nat.le_refl _, fun p h => (nomatch h)⟩, ?_, ?_⟩
          · rintro i x acc env hx ⟨qs, rfl, rfl, hql, hqs⟩
            obtain ⟨ex, hi⟩ := rngD_at hx
            subst ex
            walk_at "wh"
            refine ⟨(by decide : 2 ≤ sizeLine), ?_⟩
            walk_at "wh"
            refine ⟨by rw [List.length_map, sizeLine_eq]; omega, qs ++ [(i, i + (2 + v))], rfl, ?_, by rw [List.length_append, List.length_singleton]; omega, hqs.snoc (by omega) (by omega)⟩
            rw [← prD_snoc, Int.zero_add]
            rfl
          · rintro acc env ⟨qs, rfl, rfl, hql, hqs⟩
            rw [rngD_len] at hql
            walk_at "wh"
            refine ⟨by rw [List.length_map, List.length_map, sizeLine_eq]; omega, ?_⟩
            walk_at "wh"
            refine ⟨mul_fit (k := 2) (l := 2) (by decide) (by show ((2 + v : Nat) : Int).natAbs < 4; omega) (by decide) (by decide), ?_⟩
            walk_at "wh"
            refine ⟨(by decide : 2 ≤ sizeLine), ?_⟩
            walk_at "wh"
            have := q (2 * (2 + v)) (ps ++ qs) a b (by omega) (by omega) (hps.app hqs) (by rw [List.length_append]; omega) hp
            rw [List.map_append] at this
            exact this
        · omega
        · omega
    · omega
    · omega
    · exact mul_fit (k := 2) (l := 2) (by decide) (by show ((2 + v : Nat) : Int).natAbs < 4; omega) (by decide) (by decide)
  · obtain ⟨u, eu, u2⟩ : ∃ u : Nat, (if (4 : Int) < ((size : Nat) : Int) then (4 : Int) else ((size : Nat) : Int)) = (u : Nat) ∧ u ≤ 4 := by
      rcases hs with rfl | rfl | rfl | rfl | rfl
      · exact ⟨1, by decide, by decide⟩
      · exact ⟨2, by decide, by decide⟩
      · exact ⟨3, by decide, by decide⟩
      · exact ⟨4, by decide, by decide⟩
      · exact ⟨4, by decide, by decide⟩
    walk_at "wh"
    refine ⟨trivial, ?_⟩
    dsimp only
    rw [eu]
    walk_at "go"
    · refine ⟨fun i env => ∃ ps o3, env = [some (plD a b), some (.d (.int ((2 : Nat) : Int))), some (.d (.int (size : Nat))), o3, none, some (.own (ps.map prD)), some (.d (.int (2 + u : Nat))), none, none, none] ∧ ps.length ≤ 7 * i ∧ PsOk (2 + u) ps, ⟨[], none, rfl, Nat.le_refl _, fun p h => (nomatch h)⟩, ?_, ?_⟩
      · rintro i x env hx ⟨ps, o3, rfl, hpl, hps⟩
        obtain ⟨ex, hi⟩ := rngD_at hx
        subst ex
        rw [Int.zero_add]
        walk_at "go"
        · refine ⟨fun j acc env => ∃ qs, env = [some (plD a b), some (.d (.int ((2 : Nat) : Int))), some (.d (.int (size : Nat))), some (.d (.int (i : Nat))), none, some (.own (ps.map prD)), some (.d (.int (2 + u : Nat))), none, none, none] ∧ acc = qs.map prD ∧ qs.length ≤ j ∧ PsOk (2 + u) qs, ⟨[], rfl, rfl, Nat.le_refl _, fun p h => (nomatch h)⟩, ?_, ?_⟩
          · rintro j y acc env hy ⟨qs, rfl, rfl, hql, hqs⟩
            obtain ⟨ey, hj⟩ := rngD_at hy
            subst ey
            walk_at "wh"
            refine ⟨(by decide : 2 ≤ sizeLine), ?_⟩
            walk_at "wh"
            refine ⟨by rw [List.length_map, sizeLine_eq]; omega, qs ++ [(i, j)], rfl, ?_, by rw [List.length_append, List.length_singleton]; omega, hqs.snoc (by omega) (by omega)⟩
            rw [← prD_snoc, Int.zero_add]
          · rintro acc env ⟨qs, rfl, rfl, hql, hqs⟩
            rw [rngD_len] at hql
            walk_at "wh"
            refine ⟨by rw [List.length_map, List.length_map, sizeLine_eq]; omega, ?_⟩
            walk_at "wh"
            exact ⟨ps ++ qs, _, by rw [List.map_append]; rfl, by rw [List.length_append]; omega, hps.app hqs⟩
        · omega
        · omega
      · rintro env ⟨ps, o3, rfl, hpl, hps⟩
        rw [rngD_len] at hpl
        walk_at "wh"
        refine ⟨(by decide : 2 ≤ sizeLine), ?_⟩
        walk_at "wh"
        exact q (2 + u) ps a b (by omega) (by omega) hps (by omega) hp
    · omega
    · omega
    · exact Nat.zero_le _
  · obtain ⟨u, eu, u2⟩ : ∃ u : Nat, (if decide ((3 : Int) < ((size : Nat) : Int)) = true then (1 : Int) else 0) = (u : Nat) ∧ u ≤ 1 := by
      rcases hs with rfl | rfl | rfl | rfl | rfl
      · exact ⟨0, by decide, by decide⟩
      · exact ⟨0, by decide, by decide⟩
      · exact ⟨0, by decide, by decide⟩
      · exact ⟨1, by decide, by decide⟩
      · exact ⟨1, by decide, by decide⟩
    walk_at "wh"
    dsimp only
    rw [eu]
    walk_at "go"
    · refine ⟨fun i env => ∃ ps o3, env = [some (plD a b), some (.d (.int ((3 : Nat) : Int))), some (.d (.int (size : Nat))), o3, none, some (.own (ps.map prD)), none, none, some (.d (.int (2 + u : Nat))), none] ∧ ps.length ≤ 6 * i ∧ PsOk (2 * (2 + u)) ps, ⟨[], none, rfl, Nat.le_refl _, fun p h => (nomatch h)⟩, ?_, ?_⟩
      · rintro i x env hx ⟨ps, o3, rfl, hpl, hps⟩
        obtain ⟨ex, hi⟩ := rngD_at hx
        subst ex
        rw [Int.zero_add]
        walk_at "go"
        · refine ⟨fun j acc env => ∃ qs, env = [some (plD a b), some (.d (.int ((3 : Nat) : Int))), some (.d (.int (size : Nat))), some (.d (.int (i : Nat))), none, some (.own (ps.map prD)), none, none, some (.d (.int (2 + u : Nat))), none] ∧ acc = qs.map prD ∧ qs.length ≤ j ∧ PsOk (2 * (2 + u)) qs, ⟨[], rfl, rfl, Nat.le_refl _, fun p h => (nomatch h)⟩, ?_, ?_⟩
          · rintro j y acc env hy ⟨qs, rfl, rfl, hql, hqs⟩
            obtain ⟨ey, hj⟩ := rngD_at hy
            subst ey
            walk_at "wh"
            refine ⟨(by decide : 2 ≤ sizeLine), ?_⟩
            walk_at "wh"
            refine ⟨by rw [List.length_map, sizeLine_eq]; omega, qs ++ [(i, j)], rfl, ?_, by rw [List.length_append, List.length_singleton]; omega, hqs.snoc (by omega) (by omega)⟩
            rw [← prD_snoc, Int.zero_add]
          · rintro acc env ⟨qs, rfl, rfl, hql, hqs⟩
            rw [rngD_len] at hql
            walk_at "wh"
            refine ⟨by rw [List.length_map, List.length_map, sizeLine_eq]; omega, ?_⟩
            walk_at "go"
            · refine ⟨fun j acc env => ∃ rs, env = [some (plD a b), some (.d (.int ((3 : Nat) : Int))), some (.d (.int (size : Nat))), some (.d (.int (i : Nat))), none, some (.own (ps.map prD)), none, none, some (.d (.int (2 + u : Nat))), none] ∧ acc = rs.map prD ∧ rs.length ≤ j ∧ PsOk (2 * (2 + u)) rs, ⟨[], rfl, rfl, Nat.le_refl _, fun p h => (nomatch h)⟩, ?_, ?_⟩
              · rintro j y acc env hy ⟨rs, rfl, rfl, hrl, hrs⟩
                obtain ⟨ey, hj⟩ := rngD_at hy
                subst ey
                walk_at "wh"
                refine ⟨(by decide : 2 ≤ sizeLine), ?_⟩
                walk_at "wh"
                refine ⟨by rw [List.length_map, sizeLine_eq]; omega, rs ++ [(2 + u + i, 2 + u + j)], rfl, ?_, by rw [List.length_append, List.length_singleton]; omega, hrs.snoc (by omega) (by omega)⟩
                rw [← prD_snoc, Int.zero_add]
                rfl
              · rintro acc env ⟨rs, rfl, rfl, hrl, hrs⟩
                rw [rngD_len] at hrl
                walk_at "wh"
                refine ⟨by rw [List.length_append, List.length_map, List.length_map, List.length_map, sizeLine_eq]; omega, ?_⟩
                walk_at "wh"
                exact ⟨ps ++ qs ++ rs, _, by rw [List.map_append, List.map_append]; rfl, by rw [List.length_append, List.length_append]; omega, (hps.app hqs).app hrs⟩
            · omega
            · omega
        · omega
        · omega
      · rintro env ⟨ps, o3, rfl, hpl, hps⟩
        rw [rngD_len] at hpl
        walk_at "wh"
        refine ⟨mul_fit (k := 2) (l := 2) (by decide) (by show ((2 + u : Nat) : Int).natAbs < 4; omega) (by decide) (by decide), ?_⟩
        walk_at "wh"
        refine ⟨a, b, 4, rfl, hp, by decide, by decide, fun x4 a4 b4 hx4 hp4 => ?_⟩
        walk_at "go"
        · refine ⟨fun i acc env => ∃ (rs : List (Nat × Nat)) (a b : Int) (o3 : Option O), env = [some (plD a b), some (.d (.int ((3 : Nat) : Int))), some (.d (.int (size : Nat))), o3, none, some (.own (ps.map prD)), none, none, some (.d (.int (2 + u : Nat))), none] ∧ PlOk a b ∧ acc = rs.map prD ∧ rs.length ≤ i ∧ PsOk (2 * (2 + u)) rs, ⟨[], a4, b4, o3, rfl, hp4, rfl, Nat.le_refl _, fun p h => (nomatch h)⟩, ?_, ?_⟩
          · rintro i y acc env hy ⟨rs, a, b, o3, rfl, hp, rfl, hrl, hrs⟩
            obtain ⟨ey, hj⟩ := rngD_at hy
            walk_at "wh"
            refine ⟨a, b, 2 + u, rfl, hp, by omega, by omega, fun x5 a5 b5 hx5 hp5 => ?_⟩
            walk_at "wh"
            refine ⟨a5, b5, 2 + u, rfl, hp5, by omega, by omega, fun x6 a6 b6 hx6 hp6 => ?_⟩
            walk_at "wh"
            refine ⟨(by decide : 2 ≤ sizeLine), ?_⟩
            walk_at "wh"
            exact ⟨by rw [List.length_map, sizeLine_eq]; omega, rs ++ [(x5, 2 + u + x6)], a6, b6, _, rfl, hp6, prD_snoc rs x5 (2 + u + x6), by rw [List.length_append, List.length_singleton]; omega, hrs.snoc (by omega) (by omega)⟩
          · rintro acc env ⟨rs, a, b, o3, rfl, hp, rfl, hrl, hrs⟩
            rw [rngD_len] at hrl
            walk_at "wh"
            refine ⟨by rw [List.length_map, List.length_map, sizeLine_eq]; omega, ?_⟩
            walk_at "wh"
            refine ⟨(by decide : 2 ≤ sizeLine), ?_⟩
            walk_at "wh"
            have := q (2 * (2 + u)) (ps ++ rs) a b (by omega) (by omega) (hps.app hrs) (by rw [List.length_append]; omega) hp
            rw [List.map_append] at this
            exact this
        · omega
        · omega
    · omega
    · omega
    · exact Nat.zero_le _
  · walk_at "go"
    refine ⟨a, b, 2, rfl, hp, by decide, by decide, fun x a2 b2 hx hp2 => ?_⟩
    walk_at "go"
    · refine ⟨fun i acc env => ∃ ps a b, env = [some (plD a b), some (.d (.int ((4 : Nat) : Int))), some (.d (.int (size : Nat))), none, none, none, some (.d (.int (2 + ((x : Nat) : Int)))), none, none, none] ∧ PlOk a b ∧ acc = ps.map prD ∧ ps.length ≤ i ∧ PsOk (2 + x + 1) ps, ⟨[], a2, b2, rfl, hp2, rfl, Nat.le_refl _, fun p h => (nomatch h)⟩, ?_, ?_⟩
      · rintro i y acc env hy ⟨ps, a, b, rfl, hp, rfl, hpl, hps⟩
        obtain ⟨ex, hi⟩ := rngD_at hy
        walk_at "wh"
        refine ⟨a, b, 2 + x, rfl, hp, by omega, by omega, fun u a3 b3 hu hp3 => ?_⟩
        walk_at "wh"
        refine ⟨(by decide : 2 ≤ sizeLine), ?_⟩
        walk_at "wh"
        exact ⟨by rw [List.length_map, sizeLine_eq]; omega, ps ++ [(u, 2 + x)], a3, b3, rfl, hp3, prD_snoc ps u (2 + x), by rw [List.length_append, List.length_singleton]; omega, hps.snoc (by omega) (by omega)⟩
      · rintro acc env ⟨ps, a, b, rfl, hp, rfl, hpl, hps⟩
        rw [rngD_len] at hpl
        walk_at "wh"
        refine ⟨(by decide : 2 ≤ sizeLine), ?_⟩
        walk_at "wh"
        exact q (2 + x + 1) ps a b (by omega) (by omega) hps (by omega) hp
    · omega
    · omega
  · walk_at "go"
    refine ⟨a, b, size, rfl, hp, by omega, by omega, fun x a2 b2 hx hp2 => ?_⟩
    walk_at "go"
    refine ⟨a2, b2, size + 5, rfl, hp2, by omega, by omega, fun x2 a3 b3 hx2 hp3 => ?_⟩
    walk_at "go"
    · refine ⟨fun i acc env => ∃ ps a b, env = [some (plD a b), some (.d (.int ((5 : Nat) : Int))), some (.d (.int (size : Nat))), none, none, none, some (.d (.int (2 + ((x : Nat) : Int)))), none, none, none] ∧ PlOk a b ∧ acc = ps.map prD ∧ ps.length ≤ i ∧ PsOk (2 + x) ps, ⟨[], a3, b3, rfl, hp3, rfl, Nat.le_refl _, fun p h => (nomatch h)⟩, ?_, ?_⟩
      · rintro i y acc env hy ⟨ps, a, b, rfl, hp, rfl, hpl, hps⟩
        obtain ⟨ex, hi⟩ := rngD_at hy
        walk_at "wh"
        refine ⟨a, b, 2 + x, rfl, hp, by omega, by omega, fun u a4 b4 hu hp4 => ?_⟩
        walk_at "wh"
        refine ⟨a4, b4, 2 + x, rfl, hp4, by omega, by omega, fun v a5 b5 hv hp5 => ?_⟩
        walk_at "wh"
        refine ⟨(by decide : 2 ≤ sizeLine), ?_⟩
        walk_at "wh"
        exact ⟨by rw [List.length_map, sizeLine_eq]; omega, ps ++ [(u, v)], a5, b5, rfl, hp5, prD_snoc ps u v, by rw [List.length_append, List.length_singleton]; omega, hps.snoc hu hv⟩
      · rintro acc env ⟨ps, a, b, rfl, hp, rfl, hpl, hps⟩
        rw [rngD_len] at hpl
        walk_at "go"
        refine ⟨fun i acc env => ∃ qs, env = [some (plD a b), some (.d (.int ((5 : Nat) : Int))), some (.d (.int (size : Nat))), none, none, some (.d (.list (ps.map prD))), some (.d (.int (2 + ((x : Nat) : Int)))), none, none, none] ∧ acc = qs.map prD ∧ qs.length ≤ i ∧ PsOk (2 + x) qs, ⟨[], rfl, rfl, Nat.le_refl _, fun p h => (nomatch h)⟩, ?_, ?_⟩
        · rintro i y acc env hy ⟨qs, rfl, rfl, hql, hqs⟩
          obtain ⟨p, hpi, rfl⟩ := get_map hy
          have hil := (List.getElem?_eq_some_iff.mp hpi).1
          have hpo := hps p (List.mem_of_getElem? hpi)
          walk_at "wh"
          refine ⟨_, rfl, ?_⟩
          walk_at "wh"
          refine ⟨_, rfl, ?_⟩
          walk_at "wh"
          refine decI (fun h => ?_) (fun h => ?_)
          · walk_at "wh"
            exact ⟨by rw [List.length_map, sizeLine_eq]; omega, qs ++ [p], rfl, prD_snoc qs p.1 p.2, by rw [List.length_append, List.length_singleton]; omega, hqs.snoc hpo.1 hpo.2⟩
          · walk_at "wh"
            exact ⟨qs, rfl, rfl, by omega, hqs⟩
        · rintro acc env ⟨qs, rfl, rfl, hql, hqs⟩
          rw [List.length_map] at hql
          walk_at "wh"
          refine ⟨(by decide : 2 ≤ sizeLine), ?_⟩
          walk_at "wh"
          exact q (2 + x) qs a b (by omega) (by omega) hqs (by omega) hp
    · omega
    · omega
theorem f_law_pairs {P : Program} {w : World} {K : Fg} {mg : Str → Option Value} {base : Heap} {f : Addr} {fd : FuncData} (g : Gs K mg) (h_law_draw : Has P w K mg base "_law_draw" ["pool", "many"] 1 sp_law_draw) (F : Fun K "_law_pairs" "_law_pairs" s_law_pairs f fd) : FnOk P w K mg base CX0 2 f fd ["pool", "kind", "size"] (SpOf K sp_law_pairs) :=
  fn_ok F sc_law_pairs [0] (fun cdv A outer s H E hr => q_law_pairs g h_law_draw cdv A outer s H E hr) (by walk_at "len") (by walk_at "keep") m_law_pairs
theorem mono_law_pairs : sp_law_pairs.Mono := by walk_at "mono"

end K76
set_option Elab.async false
set_option linter.all false
set_option maxRecDepth 100000
set_option maxHeartbeats 1000000
set_option exponentiation.threshold 20000
set_option pp.deepTerms false
set_option pp.maxSteps 500
namespace K76
open PySem PySem.Spec PyProof.Rows L2 Pf
local macro_rules | `(tactic| walk_at "go") => `(tactic| (conv => whnf) <;> repeat ((first | refine atE rfl ?_ | refine andR ?_ ?_); (conv => whnf)))
local macro_rules | `(tactic| walk_at "wh") => `(tactic| conv => whnf)
local macro_rules | `(tactic| walk_at "len") => `(tactic| (intro os Q h; (repeat (obtain ⟨_, h⟩ := h)); subst_vars; rfl))
local macro_rules | `(tactic| walk_at "keep") => `(tactic| (intro os Q h; (repeat (obtain ⟨_, h⟩ := h)); subst_vars; simp [keepOk]))
local macro_rules | `(tactic| walk_at "mono") => `(tactic| (intro os k k' f; repeat (first | exact f _ _ | refine Exists.imp fun _ => ?_ | refine And.imp_right ?_ | refine forall_imp fun _ => ?_)))
/-! levels of a family -/
def sp_law_levels : FSp := fun os Q => ∃ (a b : Int) (kind size most : Nat), os = [plD a b, .d (.int (kind : Nat)), .d (.int (size : Nat)), .d (.int (most : Nat))] ∧ PlOk a b ∧ kind < 6 ∧ 1 ≤ size ∧ size ≤ 5 ∧ most ≤ 20 ∧
  ∀ (ns : List Str) (L : List Ln) (a' b' : Int), 2 ≤ ns.length → ns.length ≤ 8 → L.length ≤ most → (∀ l ∈ L, l.2.1 < ns.length ∧ l.2.2 < ns.length) → PlOk a' b' → Q (.d (lvD ns L)) [plD a' b', .d (.int (kind : Nat)), .d (.int (size : Nat)), .d (.int (most : Nat))]
/-! ### _law_levels -/
abbrev s_law_levels : Stmt := topS 37
abbrev n_law_levels : List Str := ["pool", "kind", "size", "most", "many", "pairs", "marks", "k", "names", "lines", "ends", "end"]
theorem sc_law_levels : FnScope n_law_levels ["pool", "kind", "size", "most"] (defScope s_law_levels) := ⟨rfl, rfl, rfl, by decide +kernel, rfl, by decide +kernel, by decide +kernel⟩
def r_law_levels : RS := (rSeq (rAsgT (rD (rCall sp_law_pairs (rACons (rN 0) (rACons (rN 1) (rACons (rN 2) rANil))))) (rGt 2 (rGcons (rGn 4) (rGcons (rGn 5) rGnil))))
  (rSeq (rSet 4 (rCB fMin2 (rACons (rP (rC (.int 12))) (rACons (rP (rD (rOp dAdd (rN 4) (rP (rD (rCB fInt (rACons (rP (rTV (rCmp (dEq false) (rP (rD (rCall sp_law_draw (rACons (rN 0) (rACons (rP (rC (.int 6))) rANil))))) (rP (rC (.int 0)))))) rANil))))))) rANil))))
  (rSeq (rSet 6 (rCall sp_law_order (rACons (rN 0) (rACons (rN 4) rANil))))
  (rSeq (rSet 5 (rSl (rP (rD (rLc (rFs (rD (rCall sp_law_order (rACons (rN 0) (rACons (rP (rD (rCB fLen (rACons (rN 5) rANil)))) rANil))))) (rGn 7) rYes (rD (rOp dIx (rN 5) (rN 7))) [7]))) rNoI (rSoI (rVar 3))))
  (rSeq (rSet 8 (rCall sp_law_names (rACons (rN 0) (rACons (rP (rD (rOp dAdd (rN 4) (rP (rD (rCB fLen (rACons (rN 5) rANil))))))) rANil))))
  (rSeq (rSet 9 (rLst rNil))
  (rSeq (rFor (rRng1 (rD (rCB fLen (rACons (rN 5) rANil)))) (rGn 7) (rSeq (rSet 10 (rLc (rFs (rD (rOp dIx (rN 5) (rN 7)))) (rGn 11) rYes (rD (rOp dIx (rN 6) (rN 11))) [11]))
  (rSeq (rSet 10 (rIf (rCmp (dEq false) (rP (rD (rCall sp_law_draw (rACons (rN 0) (rACons (rP (rC (.int 2))) rANil))))) (rP (rC (.int 0)))) (rO (rVar 10)) (rRev (rN 10))))
  (rDrop (rApp 9 (rTup (rCons (rD (rOp dIx (rN 8) (rP (rD (rOp dAdd (rN 4) (rN 7)))))) (rCons (rD (rOp dIx (rN 10) (rP (rC (.int 0))))) (rCons (rD (rOp dIx (rN 10) (rP (rC (.int 1))))) rNil)))))))))
  (rRet (rO (rTup (rCons (rD (rCB fTuple (rACons (rP (rD (rSl (rN 8) rNoI (rSoI (rVar 4))))) rANil))) (rCons (rD (rCB fTuple (rACons (rN 9) rANil))) rNil))))))))))))
theorem q_law_levels {P : Program} {w : World} {K : Fg} {mg : Str → Option Value} {base : Heap} {f : Addr} (g : Gs K mg) (h_law_draw : Has P w K mg base "_law_draw" ["pool", "many"] 1 sp_law_draw) (h_law_order : Has P w K mg base "_law_order" ["pool", "many"] 2 sp_law_order) (h_law_names : Has P w K mg base "_law_names" ["pool", "many"] 2 sp_law_names) (h_law_pairs : Has P w K mg base "_law_pairs" ["pool", "kind", "size"] 2 sp_law_pairs) (cdv : Value) (A : Around) (outer : List PySem.Env) (s : Shared) (H : Hp) (E : XK) (hr : Room 2 (A.deeper (envOfC "_law_levels" (defScope s_law_levels) s.heap.objs.size f cdv))) :
    QSs (cxOf CX0 P w K mg base n_law_levels "_law_levels" (defScope s_law_levels) f cdv A outer s H E).nox [0] (defBody s_law_levels) r_law_levels :=
  (qss_cons (qs_asgT (QE.v (qe_call h_law_pairs (hr.mono (by decide)) (qa_cons (qp_var 0) (qa_cons (qp_var 1) (qa_cons (qp_var 2) qa_nil))))) (qg_tup 2 rfl (qgs_cons (qg_name 4 sc_law_levels.nd) (qgs_cons (qg_name 5 sc_law_levels.nd) qgs_nil))))
  (qss_cons (qs_set 4 sc_law_levels.nd (qe_min2 rfl g.min (qa_cons (qv_int).p (qa_cons ((QE.v (qe_add (qp_var 4) ((QE.v (qe_int g.int (qa_cons ((qv_eq hr.units ((QE.v (qe_call h_law_draw (hr.mono (by decide)) (qa_cons (qp_var 0) (qa_cons (qv_int).p qa_nil))))).p (qv_int).p)).p qa_nil)))).p))).p qa_nil))))
  (qss_cons (qs_set 6 sc_law_levels.nd (qe_call h_law_order (hr.mono (by decide)) (qa_cons (qp_var 0) (qa_cons (qp_var 4) qa_nil))))
  (qss_cons (qs_set 5 sc_law_levels.nd (qe_slice ((QE.v (qe_lc (own := [("k", 7)]) rfl sc_law_levels.nd (qf_seq (QE.v (qe_call h_law_order (hr.mono (by decide)) (qa_cons (qp_var 0) (qa_cons ((QE.v (qe_len g.len (qa_cons (qp_var 5) qa_nil)))).p qa_nil))))) (blkOk_by (by rfl)) (fun _ _ _ _ _ => (qg_name 7 sc_law_levels.nd)) (fun _ _ _ _ _ => qts_nil) (fun _ _ _ _ _ => (qv_ix (qp_var 5) (qp_var 7)))))).p qi_none (qi_some (qv_var 3))))
  (qss_cons (qs_set 8 sc_law_levels.nd (qe_call h_law_names (hr.mono (by decide)) (qa_cons (qp_var 0) (qa_cons ((QE.v (qe_add (qp_var 4) ((QE.v (qe_len g.len (qa_cons (qp_var 5) qa_nil)))).p))).p qa_nil))))
  (qss_cons (qs_set 9 sc_law_levels.nd (qe_lst ql_nil))
  (qss_cons (qs_for PassesOwn.never rfl (qf_range1 g.range (QE.v (qe_len g.len (qa_cons (qp_var 5) qa_nil)))) (qg_name 7 sc_law_levels.nd) (qss_cons (qs_setLc (own := [("end", 11)]) 10 rfl sc_law_levels.nd (qf_seq (qv_ix (qp_var 5) (qp_var 7))) (blkOk_by (by rfl)) (fun _ _ _ _ _ => (qg_name 11 sc_law_levels.nd)) (fun _ _ _ _ _ => qts_nil) (fun _ _ _ _ _ => (qv_ix (qp_var 6) (qp_var 11))))
  (qss_cons (qs_set 10 sc_law_levels.nd (qe_if (qt_eq hr.units ((QE.v (qe_call h_law_draw (hr.mono (by decide)) (qa_cons (qp_var 0) (qa_cons (qv_int).p qa_nil))))).p (qv_int).p) (QV.o (qv_var 10)) (qe_rev (qp_var 10))))
  (qss_one (qs_expr (qe_append 9 (qv_tup (ql_cons (qv_ix (qp_var 8) ((QE.v (qe_add (qp_var 4) (qp_var 7)))).p) (ql_cons (qv_ix (qp_var 10) (qv_int).p) (ql_cons (qv_ix (qp_var 10) (qv_int).p) ql_nil))))))))))
  (qss_one (qs_ret (QV.o (qv_tup (ql_cons (QE.v (qe_tuple g.tuple (qa_cons ((QE.v (qe_slice (qp_var 8) qi_none (qi_some (qv_var 4))))).p qa_nil))) (ql_cons (QE.v (qe_tuple g.tuple (qa_cons (qp_var 9) qa_nil))) ql_nil)))))))))))))

theorem cut_to2 {α : Type} {xs : List α} {j : Nat} : cut xs none (some (j : Int)) = xs.take j := by
  by_cases h : j ≤ xs.length
  · exact cut_to h
  · unfold cut
    have e1 : HT.sIx xs.length 0 none = 0 := rfl
    rw [e1, HT.sIx_nat, List.drop_zero, Nat.sub_zero, Nat.min_eq_right (by omega), List.take_length, List.take_of_length_le (by omega)]
theorem m_law_levels (os : List O) (Q : O → List O → Prop) (h : sp_law_levels os Q) : Ends r_law_levels n_law_levels os Q := by
  obtain ⟨a, b, kind, size, most, rfl, hp, hk, h1, h2, hm, q⟩ := h
  walk_at "wh"
  refine ⟨a, b, kind, size, rfl, hp, hk, h1, h2, fun many0 ps a1 b1 hm1 hm2 hps hpl hp1 => ?_⟩
  walk_at "wh"
  refine ⟨rfl, ?_⟩
  walk_at "wh"
  refine ⟨a1, b1, 6, rfl, hp1, by decide, by decide, fun x2 a2 b2 hx2 hp2 => ?_⟩
  obtain ⟨u, eu, u2⟩ : ∃ u : Nat, (if (if false = true then !decide (((x2 : Nat) : Int) = 0) else decide (((x2 : Nat) : Int) = 0)) = true then (1 : Int) else 0) = (u : Nat) ∧ u ≤ 1 := by
    by_cases h : (if false = true then !decide (((x2 : Nat) : Int) = 0) else decide (((x2 : Nat) : Int) = 0)) = true
    · exact ⟨1, by rw [if_pos h]; rfl, by decide⟩
    · exact ⟨0, by rw [if_neg h]; rfl, by decide⟩
  walk_at "go"
  rotate_left
  · trivial
  dsimp only
  rw [eu, show (if ((many0 : Nat) : Int) + (u : Nat) < 12 then ((many0 : Nat) : Int) + (u : Nat) else 12) = ((many0 + u : Nat) : Int) by rw [if_pos (by omega)]; omega]
  refine ⟨a2, b2, many0 + u, rfl, hp2, by omega, fun marks a3 b3 hmk hp3 => ?_⟩
  have mlen := hmk.length_eq
  rw [List.length_range] at mlen
  have mlt : ∀ m ∈ marks, m < many0 + u := fun m hm => List.mem_range.mp (hmk.mem_iff.mp hm)
  walk_at "wh"
  refine ⟨a3, b3, ps.length, by rw [List.length_map], hp3, by omega, fun ord a4 b4 hord hp4 => ?_⟩
  have olen := hord.length_eq
  rw [List.length_range] at olen
  have olt : ∀ m ∈ ord, m < ps.length := fun m hm => List.mem_range.mp (hord.mem_iff.mp hm)
  walk_at "go"
  refine lc_mapE (ys := (ord.map fun k => ps.getD k (0, 0)).map prD) (fun env => env = [some (plD a4 b4), some (.d (.int (kind : Nat))), some (.d (.int (size : Nat))), some (.d (.int (most : Nat))), some (.d (.int (many0 + u : Nat))), some (.d (.list (ps.map prD))), some (.own (natD marks)), none, none, none, none, none]) rfl (by rw [natD_len, List.length_map, List.length_map]) (by rw [natD_len]; omega) (fun i x y k e' he' hx hy hk => ?_) ?_
  · subst he'
    obtain ⟨o, ho, rfl⟩ := get_map hx
    rw [List.getElem?_map, List.getElem?_map, ho] at hy
    cases hy
    have hol := olt o (List.mem_of_getElem? ho)
    have hpo : ps[o]? = some (ps.getD o (0, 0)) := by
      rw [List.getD_eq_getElem?_getD, List.getElem?_eq_getElem hol]
      rfl
    walk_at "wh"
    refine ⟨_, atI_map hpo, ?_⟩
    walk_at "wh"
    exact hk _ rfl
  rintro env rfl
  walk_at "wh"
  have ecut : cut ((ord.map fun k => ps.getD k (0, 0)).map prD) none (some ((most : Nat) : Int)) = ((ord.map fun k => ps.getD k (0, 0)).take most).map prD := by rw [cut_to2, List.map_take]
  rw [ecut]
  have hP : PsOk many0 ((ord.map fun k => ps.getD k (0, 0)).take most) := fun p hp => by
    obtain ⟨o, ho, rfl⟩ := List.mem_map.mp (List.mem_of_mem_take hp)
    have hol := olt o ho
    have hpo : ps[o]? = some (ps.getD o (0, 0)) := by
      rw [List.getD_eq_getElem?_getD, List.getElem?_eq_getElem hol]
      rfl
    exact hps _ (List.mem_of_getElem? hpo)
  have hPl : ((ord.map fun k => ps.getD k (0, 0)).take most).length ≤ most := by rw [List.length_take]; omega
  generalize (ord.map fun k => ps.getD k (0, 0)).take most = P at hP hPl
  walk_at "wh"
  refine ⟨a4, b4, many0 + u + P.length, by rw [List.length_map]; rfl, hp4, by omega, fun zs a5 b5 hz hp5 => ?_⟩
  walk_at "go"
  · refine ⟨fun i env => ∃ (L : List Ln) (a b : Int) (o7 o10 : Option O), env = [some (plD a b), some (.d (.int (kind : Nat))), some (.d (.int (size : Nat))), some (.d (.int (most : Nat))), some (.d (.int (many0 + u : Nat))), some (.own (P.map prD)), some (.own (natD marks)), o7, some (.own (zs.map PyData.str)), some (.own (L.map lineD)), o10, none] ∧ PlOk a b ∧ L.length = i ∧ ∀ l ∈ L, l.2.1 < many0 + u ∧ l.2.2 < many0 + u, ⟨[], a5, b5, none, none, rfl, hp5, rfl, fun l h => (nomatch h)⟩, ?_, ?_⟩
    · rintro i x env hx ⟨L, a, b, o7, o10, rfl, hp, hLl, hL⟩
      obtain ⟨ex, hi⟩ := rngD_at hx
      rw [List.length_map] at hi
      subst ex
      rw [Int.zero_add]
      obtain ⟨p, hpi, hpm⟩ := getAt (show i < P.length by omega)
      have hpp := hP p hpm
      obtain ⟨m1, hm1', hm1m⟩ := getAt (show p.1 < marks.length by omega)
      obtain ⟨m2, hm2', hm2m⟩ := getAt (show p.2 < marks.length by omega)
      have b1 := mlt m1 hm1m
      have b2 := mlt m2 hm2m
      obtain ⟨z, hz', _⟩ := getAt (show many0 + u + i < zs.length by omega)
      have fin : ∀ (x y : Nat) (a' b' : Int) (o7 o10 : Option O), x < many0 + u → y < many0 + u → PlOk a' b' → ∃ (L' : List Ln) (a b : Int) (p7 p10 : Option O), [some (plD a' b'), some (.d (.int (kind : Nat))), some (.d (.int (size : Nat))), some (.d (.int (most : Nat))), some (.d (.int (many0 + u : Nat))), some (.own (P.map prD)), some (.own (natD marks)), o7, some (.own (zs.map PyData.str)), some (.own (L.map lineD ++ [.tuple [.str z, .int (x : Nat), .int (y : Nat)]])), o10, none] = [some (plD a b), some (.d (.int (kind : Nat))), some (.d (.int (size : Nat))), some (.d (.int (most : Nat))), some (.d (.int (many0 + u : Nat))), some (.own (P.map prD)), some (.own (natD marks)), p7, some (.own (zs.map PyData.str)), some (.own (L'.map lineD)), p10, none] ∧ PlOk a b ∧ L'.length = i + 1 ∧ ∀ l ∈ L', l.2.1 < many0 + u ∧ l.2.2 < many0 + u := fun x y a' b' o7 o10 hx hy hp' =>
        ⟨L ++ [(z, x, y)], a', b', o7, o10, by rw [List.map_append]; rfl, hp', by rw [List.length_append, hLl]; rfl, fun l hl => (List.mem_append.mp hl).elim (hL l) fun q => by rw [List.mem_singleton.mp q]; exact ⟨hx, hy⟩⟩
      have hzi : atI (zs.map PyData.str) (((many0 + u : Nat) : Int) + ((i : Nat) : Int)) = some (.str z) := by
        rw [show ((many0 + u : Nat) : Int) + ((i : Nat) : Int) = ((many0 + u + i : Nat) : Int) by omega]
        exact atI_map hz'
      have hLs : (L.map lineD).length < sizeLine := by rw [List.length_map, sizeLine_eq]; omega
      walk_at "wh"
      refine ⟨_, atI_map hpi, ?_⟩
      walk_at "wh"
      refine lc_mapE (xs := natD [p.1, p.2]) (ys := natD [m1, m2]) (fun env => env = [some (plD a b), some (.d (.int (kind : Nat))), some (.d (.int (size : Nat))), some (.d (.int (most : Nat))), some (.d (.int (many0 + u : Nat))), some (.own (P.map prD)), some (.own (natD marks)), some (.d (.int (i : Nat))), some (.own (zs.map PyData.str)), some (.own (L.map lineD)), o10, none]) rfl rfl (show 2 ≤ 1000 by decide) (fun j x y k e' he' hx hy hk => ?_) ?_
      · subst he'
        have : j = 0 ∨ j = 1 := by
          have := (List.getElem?_eq_some_iff.mp hx).1
          have : j < 2 := this
          omega
        rcases this with rfl | rfl
        · cases hx
          cases hy
          walk_at "wh"
          refine ⟨_, atI_map hm1', ?_⟩
          walk_at "wh"
          exact hk _ rfl
        · cases hx
          cases hy
          walk_at "wh"
          refine ⟨_, atI_map hm2', ?_⟩
          walk_at "wh"
          exact hk _ rfl
      rintro env rfl
      walk_at "wh"
      refine ⟨a, b, 2, rfl, hp, by decide, by decide, fun x3 a6 b6 hx3 hp6 => ?_⟩
      walk_at "wh"
      refine decI (fun h => ?_) (fun h => ?_)
      · walk_at "wh"
        refine ⟨_, hzi, ?_⟩
        walk_at "wh"
        refine ⟨_, rfl, ?_⟩
        walk_at "wh"
        refine ⟨_, rfl, ?_⟩
        walk_at "wh"
        refine ⟨(by decide : 3 ≤ sizeLine), ?_⟩
        walk_at "wh"
        exact ⟨hLs, fin m1 m2 a6 b6 _ _ b1 b2 hp6⟩
      · walk_at "wh"
        refine ⟨_, hzi, ?_⟩
        walk_at "wh"
        refine ⟨_, rfl, ?_⟩
        walk_at "wh"
        refine ⟨_, rfl, ?_⟩
        walk_at "wh"
        refine ⟨(by decide : 3 ≤ sizeLine), ?_⟩
        walk_at "wh"
        exact ⟨hLs, fin m2 m1 a6 b6 _ _ b2 b1 hp6⟩
    · rintro env ⟨L, a, b, o7, o10, rfl, hp, hLl, hL⟩
      rw [rngD_len, List.length_map] at hLl
      have ec2 : cut (zs.map PyData.str) none (some ((many0 + u : Nat) : Int)) = (zs.take (many0 + u)).map PyData.str := by rw [cut_to2, List.map_take]
      have ezl : (zs.take (many0 + u)).length = many0 + u := by rw [List.length_take]; omega
      walk_at "wh"
      refine ⟨(by decide : 2 ≤ sizeLine), ?_⟩
      walk_at "wh"
      rw [ec2]
      exact q (zs.take (many0 + u)) L a b (by omega) (by omega) (by omega) (by rw [ezl]; exact hL) hp
  · rw [List.length_map]; omega
  · rw [List.length_map]; omega
  · exact Nat.zero_le _
theorem f_law_levels {P : Program} {w : World} {K : Fg} {mg : Str → Option Value} {base : Heap} {f : Addr} {fd : FuncData} (g : Gs K mg) (h_law_draw : Has P w K mg base "_law_draw" ["pool", "many"] 1 sp_law_draw) (h_law_order : Has P w K mg base "_law_order" ["pool", "many"] 2 sp_law_order) (h_law_names : Has P w K mg base "_law_names" ["pool", "many"] 2 sp_law_names) (h_law_pairs : Has P w K mg base "_law_pairs" ["pool", "kind", "size"] 2 sp_law_pairs) (F : Fun K "_law_levels" "_law_levels" s_law_levels f fd) : FnOk P w K mg base CX0 3 f fd ["pool", "kind", "size", "most"] (SpOf K sp_law_levels) :=
  fn_ok F sc_law_levels [0] (fun cdv A outer s H E hr => q_law_levels g h_law_draw h_law_order h_law_names h_law_pairs cdv A outer s H E hr) (by walk_at "len") (by walk_at "keep") m_law_levels
theorem mono_law_levels : sp_law_levels.Mono := by walk_at "mono"

end K76
set_option Elab.async false
set_option linter.all false
set_option maxRecDepth 100000
set_option maxHeartbeats 1000000
set_option exponentiation.threshold 20000
set_option pp.deepTerms false
set_option pp.maxSteps 500
namespace K76
open PySem PySem.Spec PyProof.Rows L2 Pf
local macro_rules | `(tactic| walk_at "go") => `(tactic| (conv => whnf) <;> repeat ((first | refine atE rfl ?_ | refine andR ?_ ?_); (conv => whnf)))
local macro_rules | `(tactic| walk_at "wh") => `(tactic| conv => whnf)
local macro_rules | `(tactic| walk_at "len") => `(tactic| (intro os Q h; (repeat (obtain ⟨_, h⟩ := h)); subst_vars; rfl))
local macro_rules | `(tactic| walk_at "keep") => `(tactic| (intro os Q h; (repeat (obtain ⟨_, h⟩ := h)); subst_vars; simp [keepOk]))
local macro_rules | `(tactic| walk_at "mono") => `(tactic| (intro os k k' f; repeat (first | exact f _ _ | refine Exists.imp fun _ => ?_ | refine And.imp_right ?_ | refine forall_imp fun _ => ?_)))
/-! the crossed levels -/
def crP : List (Nat × Nat) := [(0, 1), (1, 2), (2, 3), (1, 4), (4, 5), (5, 3), (0, 6), (6, 7), (7, 2)]
def mkAt (marks : List Nat) (v : Nat) : Nat := marks.getD v 0
def CrossL (marks ord : List Nat) (L : List Ln) : Prop := L.length = ord.length ∧ ∀ (i k : Nat) (l : Ln), ord[i]? = some k → L[i]? = some l → ∃ p, crP[k]? = some p ∧ ((l.2.1 = mkAt marks p.1 ∧ l.2.2 = mkAt marks p.2) ∨ (l.2.1 = mkAt marks p.2 ∧ l.2.2 = mkAt marks p.1))
def sp_law_crossed : FSp := fun os Q => ∃ (a b : Int), os = [plD a b] ∧ PlOk a b ∧ ∀ (ns : List Str) (L : List Ln) (marks ord : List Nat) (a' b' : Int), ns.length = 8 → marks.Perm (List.range 8) → ord.Perm (List.range 9) → CrossL marks ord L → PlOk a' b' → Q (.d (.tuple [lvD ns L, .int (mkAt marks 0 : Nat), .int (mkAt marks 3 : Nat)])) [plD a' b']
/-! ### _law_crossed -/
abbrev s_law_crossed : Stmt := topS 54
abbrev n_law_crossed : List Str := ["pool", "pairs", "marks", "names", "lines", "k", "ends", "end"]
theorem sc_law_crossed : FnScope n_law_crossed ["pool"] (defScope s_law_crossed) := ⟨rfl, rfl, rfl, by decide +kernel, rfl, by decide +kernel, by decide +kernel⟩
def r_law_crossed : RS := (rSeq (rSet 1 (rLst (rCons (rTup (rCons (rC (.int 0)) (rCons (rC (.int 1)) rNil))) (rCons (rTup (rCons (rC (.int 1)) (rCons (rC (.int 2)) rNil))) (rCons (rTup (rCons (rC (.int 2)) (rCons (rC (.int 3)) rNil))) (rCons (rTup (rCons (rC (.int 1)) (rCons (rC (.int 4)) rNil))) (rCons (rTup (rCons (rC (.int 4)) (rCons (rC (.int 5)) rNil))) (rCons (rTup (rCons (rC (.int 5)) (rCons (rC (.int 3)) rNil))) (rCons (rTup (rCons (rC (.int 0)) (rCons (rC (.int 6)) rNil))) (rCons (rTup (rCons (rC (.int 6)) (rCons (rC (.int 7)) rNil))) (rCons (rTup (rCons (rC (.int 7)) (rCons (rC (.int 2)) rNil))) rNil)))))))))))
  (rSeq (rSet 2 (rCall sp_law_order (rACons (rN 0) (rACons (rP (rC (.int 8))) rANil))))
  (rSeq (rSet 3 (rCall sp_law_names (rACons (rN 0) (rACons (rP (rC (.int 17))) rANil))))
  (rSeq (rSet 4 (rLst rNil))
  (rSeq (rFor (rFs (rD (rCall sp_law_order (rACons (rN 0) (rACons (rP (rC (.int 9))) rANil))))) (rGn 5) (rSeq (rSet 6 (rLc (rFs (rD (rOp dIx (rN 1) (rN 5)))) (rGn 7) rYes (rD (rOp dIx (rN 2) (rN 7))) [7]))
  (rSeq (rSet 6 (rIf (rCmp (dEq false) (rP (rD (rCall sp_law_draw (rACons (rN 0) (rACons (rP (rC (.int 2))) rANil))))) (rP (rC (.int 0)))) (rO (rVar 6)) (rRev (rN 6))))
  (rDrop (rApp 4 (rTup (rCons (rD (rOp dIx (rN 3) (rP (rD (rOp dAdd (rP (rC (.int 8))) (rN 5)))))) (rCons (rD (rOp dIx (rN 6) (rP (rC (.int 0))))) (rCons (rD (rOp dIx (rN 6) (rP (rC (.int 1))))) rNil)))))))))
  (rRet (rO (rTup (rCons (rTup (rCons (rD (rCB fTuple (rACons (rP (rD (rSl (rN 3) rNoI (rSoI (rC (.int 8)))))) rANil))) (rCons (rD (rCB fTuple (rACons (rN 4) rANil))) rNil))) (rCons (rD (rOp dIx (rN 2) (rP (rC (.int 0))))) (rCons (rD (rOp dIx (rN 2) (rP (rC (.int 3))))) rNil)))))))))))
theorem q_law_crossed {P : Program} {w : World} {K : Fg} {mg : Str → Option Value} {base : Heap} {f : Addr} (g : Gs K mg) (h_law_draw : Has P w K mg base "_law_draw" ["pool", "many"] 1 sp_law_draw) (h_law_order : Has P w K mg base "_law_order" ["pool", "many"] 2 sp_law_order) (h_law_names : Has P w K mg base "_law_names" ["pool", "many"] 2 sp_law_names) (cdv : Value) (A : Around) (outer : List PySem.Env) (s : Shared) (H : Hp) (E : XK) (hr : Room 2 (A.deeper (envOfC "_law_crossed" (defScope s_law_crossed) s.heap.objs.size f cdv))) :
    QSs (cxOf CX0 P w K mg base n_law_crossed "_law_crossed" (defScope s_law_crossed) f cdv A outer s H E).nox [0] (defBody s_law_crossed) r_law_crossed :=
  (qss_cons (qs_set 1 sc_law_crossed.nd (qe_lst (ql_cons (qv_tup (ql_cons qv_int (ql_cons qv_int ql_nil))) (ql_cons (qv_tup (ql_cons qv_int (ql_cons qv_int ql_nil))) (ql_cons (qv_tup (ql_cons qv_int (ql_cons qv_int ql_nil))) (ql_cons (qv_tup (ql_cons qv_int (ql_cons qv_int ql_nil))) (ql_cons (qv_tup (ql_cons qv_int (ql_cons qv_int ql_nil))) (ql_cons (qv_tup (ql_cons qv_int (ql_cons qv_int ql_nil))) (ql_cons (qv_tup (ql_cons qv_int (ql_cons qv_int ql_nil))) (ql_cons (qv_tup (ql_cons qv_int (ql_cons qv_int ql_nil))) (ql_cons (qv_tup (ql_cons qv_int (ql_cons qv_int ql_nil))) ql_nil)))))))))))
  (qss_cons (qs_set 2 sc_law_crossed.nd (qe_call h_law_order (hr.mono (by decide)) (qa_cons (qp_var 0) (qa_cons (qv_int).p qa_nil))))
  (qss_cons (qs_set 3 sc_law_crossed.nd (qe_call h_law_names (hr.mono (by decide)) (qa_cons (qp_var 0) (qa_cons (qv_int).p qa_nil))))
  (qss_cons (qs_set 4 sc_law_crossed.nd (qe_lst ql_nil))
  (qss_cons (qs_for PassesOwn.never rfl (qf_seq (QE.v (qe_call h_law_order (hr.mono (by decide)) (qa_cons (qp_var 0) (qa_cons (qv_int).p qa_nil))))) (qg_name 5 sc_law_crossed.nd) (qss_cons (qs_setLc (own := [("end", 7)]) 6 rfl sc_law_crossed.nd (qf_seq (qv_ix (qp_var 1) (qp_var 5))) (blkOk_by (by rfl)) (fun _ _ _ _ _ => (qg_name 7 sc_law_crossed.nd)) (fun _ _ _ _ _ => qts_nil) (fun _ _ _ _ _ => (qv_ix (qp_var 2) (qp_var 7))))
  (qss_cons (qs_set 6 sc_law_crossed.nd (qe_if (qt_eq hr.units ((QE.v (qe_call h_law_draw (hr.mono (by decide)) (qa_cons (qp_var 0) (qa_cons (qv_int).p qa_nil))))).p (qv_int).p) (QV.o (qv_var 6)) (qe_rev (qp_var 6))))
  (qss_one (qs_expr (qe_append 4 (qv_tup (ql_cons (qv_ix (qp_var 3) ((QE.v (qe_add (qv_int).p (qp_var 5)))).p) (ql_cons (qv_ix (qp_var 6) (qv_int).p) (ql_cons (qv_ix (qp_var 6) (qv_int).p) ql_nil))))))))))
  (qss_one (qs_ret (QV.o (qv_tup (ql_cons (qv_tup (ql_cons (QE.v (qe_tuple g.tuple (qa_cons ((QE.v (qe_slice (qp_var 3) qi_none (qi_some qv_int)))).p qa_nil))) (ql_cons (QE.v (qe_tuple g.tuple (qa_cons (qp_var 4) qa_nil))) ql_nil))) (ql_cons (qv_ix (qp_var 2) (qv_int).p) (ql_cons (qv_ix (qp_var 2) (qv_int).p) ql_nil))))))))))))

theorem m_law_crossed (os : List O) (Q : O → List O → Prop) (h : sp_law_crossed os Q) : Ends r_law_crossed n_law_crossed os Q := by
  obtain ⟨a, b, rfl, hp, q⟩ := h
  walk_at "go"
  · refine ⟨a, b, 8, rfl, hp, by decide, fun marks a3 b3 hmk hp3 => ?_⟩
    have mlen := hmk.length_eq
    rw [List.length_range] at mlen
    have mat : ∀ v, v < 8 → marks[v]? = some (mkAt marks v) := fun v hv => by
      unfold mkAt
      rw [List.getD_eq_getElem?_getD, List.getElem?_eq_getElem (by omega)]
      rfl
    walk_at "wh"
    refine ⟨a3, b3, 17, rfl, hp3, by decide, fun zs a5 b5 hz hp5 => ?_⟩
    walk_at "go"
    · refine ⟨a5, b5, 9, rfl, hp5, by decide, fun ord a6 b6 hord hp6 => ?_⟩
      have olen := hord.length_eq
      rw [List.length_range] at olen
      have olt : ∀ m ∈ ord, m < 9 := fun m hm => List.mem_range.mp (hord.mem_iff.mp hm)
      walk_at "go"
      refine ⟨fun i env => ∃ (L : List Ln) (a b : Int) (o5 o6 : Option O), env = [some (plD a b), some (.own (crP.map prD)), some (.own (natD marks)), some (.own (zs.map PyData.str)), some (.own (L.map lineD)), o5, o6, none] ∧ PlOk a b ∧ CrossL marks (ord.take i) L, ⟨[], a6, b6, none, none, rfl, hp6, rfl, fun i k l h => by simp at h⟩, ?_, ?_⟩
      · rintro i x env hx ⟨L, a, b, o5, o6, rfl, hp, hL⟩
        obtain ⟨k, hk, rfl⟩ := get_map hx
        have hi := (List.getElem?_eq_some_iff.mp hk).1
        have hk9 := olt k (List.mem_of_getElem? hk)
        obtain ⟨p, hpi, hpm⟩ := getAt (show k < crP.length from hk9)
        have hp8 : p.1 < 8 ∧ p.2 < 8 := (by decide : ∀ p ∈ crP, p.1 < 8 ∧ p.2 < 8) p hpm
        have hm1' := mat p.1 hp8.1
        have hm2' := mat p.2 hp8.2
        obtain ⟨z, hz', _⟩ := getAt (show 8 + k < zs.length by omega)
        have fin : ∀ (x y : Nat) (a' b' : Int) (o5 o6 : Option O), ((x = mkAt marks p.1 ∧ y = mkAt marks p.2) ∨ (x = mkAt marks p.2 ∧ y = mkAt marks p.1)) → PlOk a' b' → ∃ (L' : List Ln) (a b : Int) (p5 p6 : Option O), [some (plD a' b'), some (.own (crP.map prD)), some (.own (natD marks)), some (.own (zs.map PyData.str)), some (.own (L.map lineD ++ [.tuple [.str z, .int (x : Nat), .int (y : Nat)]])), o5, o6, none] = [some (plD a b), some (.own (crP.map prD)), some (.own (natD marks)), some (.own (zs.map PyData.str)), some (.own (L'.map lineD)), p5, p6, none] ∧ PlOk a b ∧ CrossL marks (ord.take (i + 1)) L' := fun x y a' b' o5 o6 hxy hp' => by
          refine ⟨L ++ [(z, x, y)], a', b', o5, o6, by rw [List.map_append]; rfl, hp', ?_, fun j k' l hj hl => ?_⟩
          · rw [List.length_append, hL.1, List.length_take, List.length_take, List.length_singleton]; omega
          · have hLi : L.length = i := by rw [hL.1, List.length_take]; omega
            by_cases hji : j < i
            · rw [List.getElem?_append_left (by omega)] at hl
              refine hL.2 j k' l ?_ hl
              rw [List.getElem?_take, if_pos hji]
              rw [List.getElem?_take, if_pos (by omega)] at hj
              exact hj
            · have hjl := (List.getElem?_eq_some_iff.mp hl).1
              rw [List.length_append, List.length_singleton] at hjl
              have : j = i := by omega
              subst this
              rw [List.getElem?_append_right (by omega), show j - L.length = 0 by omega] at hl
              cases hl
              rw [List.getElem?_take, if_pos (by omega), hk] at hj
              cases hj
              exact ⟨p, hpi, hxy⟩
        have hzi : atI (zs.map PyData.str) ((8 : Int) + ((k : Nat) : Int)) = some (.str z) := by
          rw [show (8 : Int) + ((k : Nat) : Int) = ((8 + k : Nat) : Int) by omega]
          exact atI_map hz'
        have hLs : (L.map lineD).length < sizeLine := by rw [List.length_map, hL.1, List.length_take, sizeLine_eq]; omega
        walk_at "wh"
        refine ⟨_, atI_map hpi, ?_⟩
        walk_at "wh"
        refine lc_mapE (xs := natD [p.1, p.2]) (ys := natD [mkAt marks p.1, mkAt marks p.2]) (fun env => env = [some (plD a b), some (.own (crP.map prD)), some (.own (natD marks)), some (.own (zs.map PyData.str)), some (.own (L.map lineD)), some (.d (.int (k : Nat))), o6, none]) rfl rfl (show 2 ≤ 1000 by decide) (fun j x y k e' he' hx hy hk => ?_) ?_
        · subst he'
          have : j = 0 ∨ j = 1 := by
            have := (List.getElem?_eq_some_iff.mp hx).1
            have : j < 2 := this
            omega
          rcases this with rfl | rfl
          · cases hx
            cases hy
            walk_at "wh"
            refine ⟨_, atI_map hm1', ?_⟩
            walk_at "wh"
            exact hk _ rfl
          · cases hx
            cases hy
            walk_at "wh"
            refine ⟨_, atI_map hm2', ?_⟩
            walk_at "wh"
            exact hk _ rfl
        rintro env rfl
        walk_at "wh"
        refine ⟨a, b, 2, rfl, hp, by decide, by decide, fun x3 a6 b6 hx3 hp6 => ?_⟩
        walk_at "wh"
        refine decI (fun h => ?_) (fun h => ?_)
        · walk_at "wh"
          refine ⟨_, hzi, ?_⟩
          walk_at "wh"
          refine ⟨_, rfl, ?_⟩
          walk_at "wh"
          refine ⟨_, rfl, ?_⟩
          walk_at "wh"
          refine ⟨(by decide : 3 ≤ sizeLine), ?_⟩
          walk_at "wh"
          exact ⟨hLs, fin _ _ a6 b6 _ _ (.inl ⟨rfl, rfl⟩) hp6⟩
        · walk_at "wh"
          refine ⟨_, hzi, ?_⟩
          walk_at "wh"
          refine ⟨_, rfl, ?_⟩
          walk_at "wh"
          refine ⟨_, rfl, ?_⟩
          walk_at "wh"
          refine ⟨(by decide : 3 ≤ sizeLine), ?_⟩
          walk_at "wh"
          exact ⟨hLs, fin _ _ a6 b6 _ _ (.inr ⟨rfl, rfl⟩) hp6⟩
      · rintro env ⟨L, a, b, o5, o6, rfl, hp, hL⟩
        rw [natD_len, List.take_length] at hL
        have ec2 : cut (zs.map PyData.str) none (some (8 : Int)) = (zs.take 8).map PyData.str := by
          rw [show (8 : Int) = ((8 : Nat) : Int) from rfl, cut_to2, List.map_take]
        walk_at "wh"
        refine ⟨(by decide : 2 ≤ sizeLine), ?_⟩
        walk_at "wh"
        refine ⟨_, atI_map (i := 0) (mat 0 (by decide)), ?_⟩
        walk_at "wh"
        refine ⟨_, atI_map (i := 3) (mat 3 (by decide)), ?_⟩
        walk_at "wh"
        refine ⟨(by decide : 3 ≤ sizeLine), ?_⟩
        walk_at "wh"
        rw [ec2]
        exact q (zs.take 8) L marks ord a b (by rw [List.length_take]; omega) hmk hord hL hp
    · exact Nat.zero_le _
  all_goals decide
theorem f_law_crossed {P : Program} {w : World} {K : Fg} {mg : Str → Option Value} {base : Heap} {f : Addr} {fd : FuncData} (g : Gs K mg) (h_law_draw : Has P w K mg base "_law_draw" ["pool", "many"] 1 sp_law_draw) (h_law_order : Has P w K mg base "_law_order" ["pool", "many"] 2 sp_law_order) (h_law_names : Has P w K mg base "_law_names" ["pool", "many"] 2 sp_law_names) (F : Fun K "_law_crossed" "_law_crossed" s_law_crossed f fd) : FnOk P w K mg base CX0 3 f fd ["pool"] (SpOf K sp_law_crossed) :=
  fn_ok F sc_law_crossed [0] (fun cdv A outer s H E hr => q_law_crossed g h_law_draw h_law_order h_law_names cdv A outer s H E hr) (by walk_at "len") (by walk_at "keep") m_law_crossed
theorem mono_law_crossed : sp_law_crossed.Mono := by walk_at "mono"

end K76
set_option Elab.async false
set_option linter.all false
set_option maxRecDepth 100000
set_option maxHeartbeats 1000000
set_option exponentiation.threshold 20000
set_option pp.deepTerms false
set_option pp.maxSteps 500
namespace K76
open PySem PySem.Spec PyProof.Rows L2 Pf
local macro_rules | `(tactic| walk_at "go") => `(tactic| (conv => whnf) <;> repeat ((first | refine atE rfl ?_ | refine andR ?_ ?_); (conv => whnf)))
local macro_rules | `(tactic| walk_at "wh") => `(tactic| conv => whnf)
local macro_rules | `(tactic| walk_at "len") => `(tactic| (intro os Q h; (repeat (obtain ⟨_, h⟩ := h)); subst_vars; rfl))
local macro_rules | `(tactic| walk_at "keep") => `(tactic| (intro os Q h; (repeat (obtain ⟨_, h⟩ := h)); subst_vars; simp [keepOk]))
local macro_rules | `(tactic| walk_at "mono") => `(tactic| (intro os k k' f; repeat (first | exact f _ _ | refine Exists.imp fun _ => ?_ | refine And.imp_right ?_ | refine forall_imp fun _ => ?_)))
/-! the crossed levels' least cut is 2: no program -/
open Fl (Net)
def crX (t : Nat → Bool) (k : Nat) : Bool := match crP[k]? with
  | some p => t p.1 != t p.2
  | none => false
theorem filter_idx (ord : List Nat) (X : Nat → Bool) : ((List.range ord.length).filter fun i => X (ord.getD i 0)).length = (ord.filter X).length := by
  have e : ord = (List.range ord.length).map fun i => ord.getD i 0 := by
    refine List.ext_getElem? fun i => ?_
    rw [List.getElem?_map]
    by_cases h : i < ord.length
    · rw [List.getElem?_range h]
      show ord[i]? = some (ord.getD i 0)
      rw [List.getD_eq_getElem?_getD, List.getElem?_eq_getElem h]
      rfl
    · rw [List.getElem?_eq_none_iff.mpr (by omega), List.getElem?_eq_none_iff.mpr (by rw [List.length_range]; omega)]
      rfl
  have e2 : (ord.filter X).length = (((List.range ord.length).map fun i => ord.getD i 0).filter X).length := congrArg (fun l : List Nat => (l.filter X).length) e
  rw [e2, List.filter_map, List.length_map]
  rfl
theorem cross_cut {marks ord : List Nat} {L : List Ln} (hord : ord.Perm (List.range 9)) (h : CrossL marks ord L) (S : Nat → Bool) : (netOf L []).cut S = ((List.range 9).filter (crX fun v => S (mkAt marks v))).length := by
  have e1 : (netOf L []).cut S = ((List.range ord.length).filter fun i => crX (fun v => S (mkAt marks v)) (ord.getD i 0)).length := by
    unfold Fl.Net.cut
    rw [show (netOf L []).n = ord.length from h.1]
    congr 1
    refine List.filter_congr fun i hi => ?_
    have hi := List.mem_range.mp hi
    obtain ⟨l, hl, _⟩ := getAt (show i < L.length by rw [h.1]; exact hi)
    obtain ⟨k, hk, _⟩ := getAt hi
    obtain ⟨p, hp, hor⟩ := h.2 i k l hk hl
    unfold Fl.Net.cross crX
    rw [net_t hl, net_h hl, List.getD_eq_getElem?_getD, hk]
    dsimp only [Option.getD_some]
    rw [hp]
    dsimp only
    show (!([] : List Nat).contains i && _) = _
    rcases hor with ⟨a, b⟩ | ⟨a, b⟩
    · rw [a, b]; simp
    · rw [a, b]
      simp [Bool.xor_comm, bne_comm]
  rw [e1, filter_idx]
  exact (hord.filter _).length_eq
theorem cr_least : ∀ t1 t2 t4 t5 t6 t7 : Bool, 2 ≤ ([true != t1, t1 != t2, t2 != false, t1 != t4, t4 != t5, t5 != false, true != t6, t6 != t7, t7 != t2].filter id).length := by decide
theorem cr_list (t : Nat → Bool) : ((List.range 9).filter (crX t)).length = ([t 0 != t 1, t 1 != t 2, t 2 != t 3, t 1 != t 4, t 4 != t 5, t 5 != t 3, t 0 != t 6, t 6 != t 7, t 7 != t 2].filter id).length := by
  have e : [t 0 != t 1, t 1 != t 2, t 2 != t 3, t 1 != t 4, t 4 != t 5, t 5 != t 3, t 0 != t 6, t 6 != t 7, t 7 != t 2] = (List.range 9).map (crX t) := rfl
  rw [e, List.filter_map, List.length_map]
  rfl
theorem cross_min {marks ord : List Nat} {L : List Ln} (hmk : marks.Perm (List.range 8)) (hord : ord.Perm (List.range 9)) (h : CrossL marks ord L) : IsMin (netOf L []) (mkAt marks 0) (mkAt marks 3) 2 ∧ mkAt marks 0 < 8 ∧ mkAt marks 3 < 8 ∧ mkAt marks 0 ≠ mkAt marks 3 ∧ ∀ l ∈ L, l.2.1 < 8 ∧ l.2.2 < 8 := by
  have ml := hmk.length_eq
  rw [List.length_range] at ml
  have nd : marks.Nodup := hmk.nodup_iff.mpr List.nodup_range
  have mat : ∀ v, v < 8 → marks[v]? = some (mkAt marks v) := fun v hv => by
    unfold mkAt
    rw [List.getD_eq_getElem?_getD, List.getElem?_eq_getElem (by omega)]
    rfl
  have mlt : ∀ v, v < 8 → mkAt marks v < 8 := fun v hv => List.mem_range.mp (hmk.mem_iff.mp (List.mem_of_getElem? (mat v hv)))
  have inj : ∀ v, v < 8 → v ≠ 0 → mkAt marks v ≠ mkAt marks 0 := fun v hv h0 e => by
    have a1 := List.getElem?_eq_some_iff.mp (mat v hv)
    have a2 := List.getElem?_eq_some_iff.mp (mat 0 (by omega))
    exact List.pairwise_iff_getElem.mp nd 0 v a2.1 a1.1 (by omega) (a2.2.trans (e.symm.trans a1.2.symm))
  refine ⟨⟨⟨fun v => v == mkAt marks 0, ⟨beq_self_eq_true _, beq_eq_false_iff_ne.mpr (inj 3 (by decide) (by decide))⟩, ?_⟩, fun S hS => ?_⟩, mlt 0 (by decide), mlt 3 (by decide), (inj 3 (by decide) (by decide)).symm, fun l hl => ?_⟩
  · rw [cross_cut hord h, cr_list]
    have f : ∀ v, v < 8 → v ≠ 0 → (mkAt marks v == mkAt marks 0) = false := fun v hv h0 => beq_eq_false_iff_ne.mpr (inj v hv h0)
    rw [f 1 (by decide) (by decide), f 2 (by decide) (by decide), f 3 (by decide) (by decide), f 4 (by decide) (by decide), f 5 (by decide) (by decide), f 6 (by decide) (by decide), f 7 (by decide) (by decide), beq_self_eq_true]
    rfl
  · rw [cross_cut hord h, cr_list]
    rw [hS.1, hS.2]
    exact cr_least _ _ _ _ _ _
  · obtain ⟨i, hi⟩ := List.mem_iff_getElem?.mp hl
    have hil := (List.getElem?_eq_some_iff.mp hi).1
    rw [h.1] at hil
    obtain ⟨k, hk, _⟩ := getAt hil
    obtain ⟨p, hp, hor⟩ := h.2 i k l hk hi
    have hp8 := (by decide : ∀ p ∈ crP, p.1 < 8 ∧ p.2 < 8) p (List.mem_of_getElem? hp)
    rcases hor with ⟨a, b⟩ | ⟨a, b⟩ <;> rw [a, b]
    · exact ⟨mlt _ hp8.1, mlt _ hp8.2⟩
    · exact ⟨mlt _ hp8.2, mlt _ hp8.1⟩
end K76
set_option Elab.async false
set_option linter.all false
set_option maxRecDepth 100000
set_option maxHeartbeats 1000000
set_option exponentiation.threshold 20000
set_option pp.deepTerms false
set_option pp.maxSteps 500
namespace K76
open PySem PySem.Spec PyProof.Rows L2 Pf
local macro_rules | `(tactic| walk_at "go") => `(tactic| (conv => whnf) <;> repeat ((first | refine atE rfl ?_ | refine andR ?_ ?_); (conv => whnf)))
local macro_rules | `(tactic| walk_at "wh") => `(tactic| conv => whnf)
local macro_rules | `(tactic| walk_at "len") => `(tactic| (intro os Q h; (repeat (obtain ⟨_, h⟩ := h)); subst_vars; rfl))
local macro_rules | `(tactic| walk_at "keep") => `(tactic| (intro os Q h; (repeat (obtain ⟨_, h⟩ := h)); subst_vars; simp [keepOk]))
local macro_rules | `(tactic| walk_at "mono") => `(tactic| (intro os k k' f; repeat (first | exact f _ _ | refine Exists.imp fun _ => ?_ | refine And.imp_right ?_ | refine forall_imp fun _ => ?_)))
/-! the ring's least cuts: no program -/
open Fl (Net)
def ringL : List Ln := [("p", 0, 1), ("q", 1, 2), ("r", 0, 2), ("s", 0, 1)]
theorem cut_list (L : List Ln) (bl : List Nat) (S : Nat → Bool) : (netOf L bl).cut S = (((List.range L.length).map ((netOf L bl).cross S)).filter id).length := by
  rw [List.filter_map, List.length_map]
  rfl
theorem ring_one (S : Nat → Bool) : (netOf ringL []).cut S = ([S 0 != S 1, S 1 != S 2, S 0 != S 2, S 0 != S 1].filter id).length := by
  rw [cut_list]
  rfl
theorem ring_two (S : Nat → Bool) : (netOf ringL [1]).cut S = ([S 0 != S 1, false, S 0 != S 2, S 0 != S 1].filter id).length := by
  rw [cut_list]
  rfl
theorem ring_min1 : IsMin (netOf ringL []) 0 1 3 := by
  refine ⟨⟨fun v => v == 0, ⟨rfl, rfl⟩, by rw [ring_one]; rfl⟩, fun S hS => ?_⟩
  rw [ring_one, hS.1, hS.2]
  exact (by decide : ∀ t : Bool, 3 ≤ ([true != false, false != t, true != t, true != false].filter id).length) _
theorem ring_min2 : IsMin (netOf ringL [1]) 2 0 1 := by
  refine ⟨⟨fun v => v == 2, ⟨rfl, rfl⟩, by rw [ring_two]; rfl⟩, fun S hS => ?_⟩
  rw [ring_two, hS.1, hS.2]
  exact (by decide : ∀ t : Bool, 1 ≤ ([false != t, false, false != true, false != t].filter id).length) _
end K76
set_option Elab.async false
set_option linter.all false
set_option maxRecDepth 100000
set_option maxHeartbeats 1000000
set_option exponentiation.threshold 20000
set_option pp.deepTerms false
set_option pp.maxSteps 500
namespace K76
open PySem PySem.Spec PyProof.Rows L2 Pf
local macro_rules | `(tactic| walk_at "go") => `(tactic| (conv => whnf) <;> repeat ((first | refine atE rfl ?_ | refine andR ?_ ?_); (conv => whnf)))
local macro_rules | `(tactic| walk_at "wh") => `(tactic| conv => whnf)
local macro_rules | `(tactic| walk_at "len") => `(tactic| (intro os Q h; (repeat (obtain ⟨_, h⟩ := h)); subst_vars; rfl))
local macro_rules | `(tactic| walk_at "keep") => `(tactic| (intro os Q h; (repeat (obtain ⟨_, h⟩ := h)); subst_vars; simp [keepOk]))
local macro_rules | `(tactic| walk_at "mono") => `(tactic| (intro os k k' f; repeat (first | exact f _ _ | refine Exists.imp fun _ => ?_ | refine And.imp_right ?_ | refine forall_imp fun _ => ?_)))
/-! bunches one behind another: no program -/
open Fl (Net)
def TurnL (B : List (Nat × Nat)) (ord : List Nat) (L : List Ln) : Prop := L.length = ord.length ∧ ∀ (i k : Nat) (l : Ln), ord[i]? = some k → L[i]? = some l → ∃ p, B[k]? = some p ∧ ((l.2.1 = p.1 ∧ l.2.2 = p.2) ∨ (l.2.1 = p.2 ∧ l.2.2 = p.1))
theorem turn_cut {B : List (Nat × Nat)} {ord : List Nat} {L : List Ln} (hord : ord.Perm (List.range B.length)) (h : TurnL B ord L) (S : Nat → Bool) : (netOf L []).cut S = (B.filter fun p => S p.1 != S p.2).length := by
  have e1 : (netOf L []).cut S = ((List.range ord.length).filter fun i => (fun k => match B[k]? with | some p => S p.1 != S p.2 | none => false) (ord.getD i 0)).length := by
    unfold Fl.Net.cut
    rw [show (netOf L []).n = ord.length from h.1]
    congr 1
    refine List.filter_congr fun i hi => ?_
    have hi := List.mem_range.mp hi
    obtain ⟨l, hl, _⟩ := getAt (show i < L.length by rw [h.1]; exact hi)
    obtain ⟨k, hk, _⟩ := getAt hi
    obtain ⟨p, hp, hor⟩ := h.2 i k l hk hl
    unfold Fl.Net.cross
    rw [net_t hl, net_h hl, List.getD_eq_getElem?_getD, hk]
    dsimp only [Option.getD_some]
    rw [hp]
    dsimp only
    show (!([] : List Nat).contains i && _) = _
    rcases hor with ⟨a, b⟩ | ⟨a, b⟩
    · rw [a, b]; simp
    · rw [a, b]
      simp [bne_comm]
  rw [e1, filter_idx ord fun k => match B[k]? with | some p => S p.1 != S p.2 | none => false, (hord.filter _).length_eq]
  have e : B = (List.range B.length).map fun i => B.getD i (0, 0) := by
    refine List.ext_getElem? fun i => ?_
    rw [List.getElem?_map]
    by_cases h : i < B.length
    · rw [List.getElem?_range h]
      show B[i]? = some (B.getD i (0, 0))
      rw [List.getD_eq_getElem?_getD, List.getElem?_eq_getElem h]
      rfl
    · rw [List.getElem?_eq_none_iff.mpr (by omega), List.getElem?_eq_none_iff.mpr (by rw [List.length_range]; omega)]
      rfl
  have e2 : (B.filter fun p => S p.1 != S p.2).length = (((List.range B.length).map fun i => B.getD i (0, 0)).filter fun p => S p.1 != S p.2).length := congrArg (fun l : List (Nat × Nat) => (l.filter fun p => S p.1 != S p.2).length) e
  rw [e2, List.filter_map, List.length_map]
  congr 1
  refine List.filter_congr fun k hk => ?_
  have hk := List.mem_range.mp hk
  obtain ⟨p, hp, _⟩ := getAt hk
  show _ = (S (B.getD k (0, 0)).1 != S (B.getD k (0, 0)).2)
  rw [List.getD_eq_getElem?_getD, hp]
  rfl
def bunchB (m0 m1 m2 m3 c0 c1 c2 : Nat) : List (Nat × Nat) := List.replicate c0 (m0, m1) ++ List.replicate c1 (m1, m2) ++ List.replicate c2 (m2, m3)
theorem rep_filter (n : Nat) (p : Nat × Nat) (X : Nat × Nat → Bool) : ((List.replicate n p).filter X).length = if X p = true then n else 0 := by
  rw [List.filter_replicate]
  split <;> simp
theorem bunch_min {m0 m1 m2 m3 c0 c1 c2 c : Nat} {ord : List Nat} {L : List Ln} (hord : ord.Perm (List.range (bunchB m0 m1 m2 m3 c0 c1 c2).length)) (h : TurnL (bunchB m0 m1 m2 m3 c0 c1 c2) ord L) (h01 : m0 ≠ m1) (h02 : m0 ≠ m2) (h03 : m0 ≠ m3) (h12 : m1 ≠ m2) (h13 : m1 ≠ m3) (h23 : m2 ≠ m3) (hc : c = c0 ∨ c = c1 ∨ c = c2) (l0 : c ≤ c0) (l1 : c ≤ c1) (l2 : c ≤ c2) : IsMin (netOf L []) m0 m3 c := by
  have cut : ∀ S : Nat → Bool, (netOf L []).cut S = (if (S m0 != S m1) = true then c0 else 0) + (if (S m1 != S m2) = true then c1 else 0) + (if (S m2 != S m3) = true then c2 else 0) := fun S => by
    rw [turn_cut hord h]
    unfold bunchB
    rw [List.filter_append, List.filter_append, List.length_append, List.length_append, rep_filter, rep_filter, rep_filter]
  refine ⟨?_, fun S hS => ?_⟩
  · rcases hc with rfl | rfl | rfl
    · refine ⟨fun v => v == m0, ⟨beq_self_eq_true _, beq_eq_false_iff_ne.mpr h03.symm⟩, ?_⟩
      rw [cut, beq_self_eq_true, beq_eq_false_iff_ne.mpr h01.symm, beq_eq_false_iff_ne.mpr h02.symm, beq_eq_false_iff_ne.mpr h03.symm]
      simp
    · refine ⟨fun v => v == m0 || v == m1, ⟨by simp, by simp [h03.symm, h13.symm]⟩, ?_⟩
      have a0 : (m0 == m0 || m0 == m1) = true := by simp
      have a1 : (m1 == m0 || m1 == m1) = true := by simp
      have a2 : (m2 == m0 || m2 == m1) = false := by simp [h02.symm, h12.symm]
      have a3 : (m3 == m0 || m3 == m1) = false := by simp [h03.symm, h13.symm]
      rw [cut, a0, a1, a2, a3]
      simp
    · refine ⟨fun v => v == m0 || v == m1 || v == m2, ⟨by simp, by simp [h03.symm, h13.symm, h23.symm]⟩, ?_⟩
      have a0 : (m0 == m0 || m0 == m1 || m0 == m2) = true := by simp
      have a1 : (m1 == m0 || m1 == m1 || m1 == m2) = true := by simp
      have a2 : (m2 == m0 || m2 == m1 || m2 == m2) = true := by simp
      have a3 : (m3 == m0 || m3 == m1 || m3 == m2) = false := by simp [h03.symm, h13.symm, h23.symm]
      rw [cut, a0, a1, a2, a3]
      simp
  · rw [cut, hS.1, hS.2]
    cases S m1 <;> cases S m2 <;> simp <;> omega
end K76
set_option Elab.async false
set_option linter.all false
set_option maxRecDepth 100000
set_option maxHeartbeats 1000000
set_option exponentiation.threshold 20000
set_option pp.deepTerms false
set_option pp.maxSteps 500
namespace K76
open PySem PySem.Spec PyProof.Rows L2 Pf
local macro_rules | `(tactic| walk_at "go") => `(tactic| (conv => whnf) <;> repeat ((first | refine atE rfl ?_ | refine andR ?_ ?_); (conv => whnf)))
local macro_rules | `(tactic| walk_at "wh") => `(tactic| conv => whnf)
local macro_rules | `(tactic| walk_at "len") => `(tactic| (intro os Q h; (repeat (obtain ⟨_, h⟩ := h)); subst_vars; rfl))
local macro_rules | `(tactic| walk_at "keep") => `(tactic| (intro os Q h; (repeat (obtain ⟨_, h⟩ := h)); subst_vars; simp [keepOk]))
local macro_rules | `(tactic| walk_at "mono") => `(tactic| (intro os k k' f; repeat (first | exact f _ _ | refine Exists.imp fun _ => ?_ | refine And.imp_right ?_ | refine forall_imp fun _ => ?_)))
/-! the law's look at one pair of marks: its pieces -/
open Fl (Net)
@[irreducible] def rR7 : RS := (rIfS (rOr (rNot (rTb (rD (rCall sp_law_same (rACons (rP (rD (rCall sp_way_estimates (rACons (rN 15) (rACons (rN 9) rANil))))) (rACons (rN 16) rANil)))))) (rNot (rTb (rD (rCall sp_law_same (rACons (rN 18) (rACons (rP (rTup (rCons (rVar 17) (rCons (rD (rCB fLen (rACons (rP (rD (rLc (rFs (rVar 16)) (rGn 19) (rCmp (dEq false) (rN 19) (rN 17)) (rVar 19) [19]))) rANil))) rNil)))) rANil))))))) (rRet (rO (rC (.bool false)))) rNext)
@[irreducible] def rR6 (k : RS) : RS := (rSeq (rSet 16 (rCall sp_law_estimates (rACons (rN 15) (rACons (rN 9) rANil))))
  (rSeq (rSet 17 (rCall sp_law_plus (rACons (rP (rD (rOp dIx (rN 14) (rN 4)))) (rACons (rP (rD (rOp dIx (rN 14) (rN 3)))) (rACons (rP (rNeg (rC (.int 1)))) rANil)))))
  (rSeq (rSet 18 (rCall sp_way_vote (rACons (rN 15) (rACons (rN 9) rANil))))
  k)))
@[irreducible] def rR5 (k : RS) : RS := (rSeq (rIfS (rNot (rTb (rD (rCall sp_law_same (rACons (rP (rD (rCall sp_is_ways (rACons (rN 1) (rACons (rP (rD (rCB fTuple (rACons (rP (rD (rCB fSortedT (rACons (rP (rD (rOp dAdd (rN 2) (rP (rTup (rCons (rVar 11) rNil)))))) rANil)))) rANil)))) (rACons (rN 3) (rACons (rN 4) (rACons (rN 8) (rACons (rN 9) rANil))))))))) (rACons (rP (rC (.bool false))) rANil)))))) (rRet (rO (rC (.bool false)))) rNext)
  (rSeq (rAsgT (rD (rCall sp_law_lies (rACons (rN 0) (rACons (rN 1) (rACons (rN 2) (rACons (rP (rD (rCall sp_law_draw (rACons (rN 0) (rACons (rP (rD (rOp bFdiv (rP (rD (rOp dAdd (rN 8) (rP (rC (.int 1)))))) (rP (rC (.int 2)))))) rANil))))) (rACons (rP (rD (rOp dMul (rP (rC (.int 2))) (rP (rD (rCall sp_law_draw (rACons (rN 0) (rACons (rP (rC (.int 2))) rANil)))))))) rANil))))))) (rGt 2 (rGcons (rGn 14) (rGcons (rGn 15) rGnil))))
  k))
@[irreducible] def rR4 (k : RS) : RS := (rSeq (rIfS (rNot (rTb (rD (rCall sp_law_same (rACons (rP (rD (rCall sp_is_ways (rACons (rN 1) (rACons (rN 2) (rACons (rN 3) (rACons (rN 4) (rACons (rP (rD (rOp bSub (rN 8) (rP (rC (.int 1)))))) (rACons (rP (rD (rSl (rN 9) (rSoI (rC (.int 1))) rNoI))) rANil))))))))) (rACons (rP (rC (.bool true))) rANil)))))) (rRet (rO (rC (.bool false)))) rNext)
  (rSeq (rSet 11 (rO (rD (rOp dIx (rP (rD (rOp dIx (rP (rD (rOp dIx (rN 9) (rP (rD (rCall sp_law_draw (rACons (rN 0) (rACons (rN 8) rANil)))))))) (rP (rC (.int 0)))))) (rP (rC (.int 0)))))))
  k))
def rRif (k : RS) : RS := (rIfS (rCmp bGt (rN 8) (rP (rC (.int 0)))) k rNext)
@[irreducible] def rR3 (k : RS) : RS := (rSeq (rIfS (rOr (rNot (rTb (rD (rCall sp_law_same (rACons (rP (rD (rCall sp_is_ways (rACons (rN 1) (rACons (rN 2) (rACons (rN 4) (rACons (rN 3) (rACons (rN 8) (rACons (rN 10) rANil))))))))) (rACons (rP (rC (.bool true))) rANil)))))) (rNot (rTb (rD (rCall sp_law_same (rACons (rP (rD (rCall sp_is_ways (rACons (rN 1) (rACons (rN 2) (rACons (rN 3) (rACons (rN 4) (rACons (rP (rD (rOp dAdd (rN 8) (rP (rC (.int 1)))))) (rACons (rN 9) rANil))))))))) (rACons (rP (rC (.bool false))) rANil))))))) (rRet (rO (rC (.bool false)))) rNext)
  (rRif k))
@[irreducible] def rR2 (k : RS) : RS := (rSeq (rSet 10 (rCB fTuple (rACons (rP (rD (rLc (rFs (rD (rRevT (rN 9)))) (rGn 13) rYes (rD (rCB fTuple (rACons (rP (rD (rLc (rFs (rD (rRevT (rN 13)))) (rGt 2 (rGcons (rGn 11) (rGcons (rGn 12) rGnil))) rYes (rTup (rCons (rVar 11) (rCons (rNeg (rVar 12)) rNil))) [11, 12]))) rANil))) [13]))) rANil)))
  k)
@[irreducible] def rR1 (k : RS) : RS := (rSeq (rIfS (rOr (rNot (rTb (rD (rCall sp_law_is_ways (rACons (rN 1) (rACons (rN 2) (rACons (rN 3) (rACons (rN 4) (rACons (rN 8) (rACons (rN 9) rANil)))))))))) (rNot (rTb (rD (rCall sp_law_same (rACons (rP (rD (rCall sp_is_ways (rACons (rN 1) (rACons (rN 2) (rACons (rN 3) (rACons (rN 4) (rACons (rN 8) (rACons (rN 9) rANil))))))))) (rACons (rP (rC (.bool true))) rANil))))))) (rRet (rO (rC (.bool false)))) rNext)
  k)
@[irreducible] def rRb (k : RS) : RS := (rSeq (rSet 9 (rCall sp_ways_between (rACons (rN 1) (rACons (rN 2) (rACons (rN 3) (rACons (rN 4) (rACons (rN 8) rANil)))))))
  (rSeq (rSetIx 6 (rD (rOp dAdd (rP (rD (rOp dIx (rN 6) (rP (rD (rCB fInt (rACons (rP (rTV (rCmp bLe (rN 8) (rN 5)))) rANil))))))) (rP (rC (.int 1))))) (rD (rCB fInt (rACons (rP (rTV (rCmp bLe (rN 8) (rN 5)))) rANil))))
  (rSeq (rIfS (rCmp bGt (rN 8) (rN 5)) (rSeq (rIfS (rCmp (dIsN true) (rN 9) (rP (rC .none))) (rRet (rO (rC (.bool false)))) rNext)
  rCont) rNext)
  k)))
def rR0 : RS := (rSeq (rSet 7 (rCall sp_least_cut (rACons (rN 1) (rACons (rN 2) (rACons (rN 3) (rACons (rN 4) rANil))))))
  (rSeq (rIfS (rOr (rNot (rTb (rIsi isTuple (rN 7)))) (rOr (rCmp (dEq true) (rP (rD (rCB fLen (rACons (rN 7) rANil)))) (rP (rC (.int 2)))) (rOr (rNot (rTb (rD (rCall sp_law_is_cut (rACons (rN 1) (rACons (rN 3) (rACons (rN 4) (rACons (rP (rD (rOp dIx (rN 7) (rP (rC (.int 0)))))) rANil)))))))) (rOr (rNot (rTb (rD (rCall sp_law_same (rACons (rP (rD (rOp dIx (rN 7) (rP (rC (.int 1)))))) (rACons (rN 5) rANil)))))) (rCmp (dEq true) (rP (rD (rCall sp_law_count (rACons (rN 1) (rACons (rN 2) (rACons (rP (rD (rOp dIx (rN 7) (rP (rC (.int 0)))))) rANil)))))) (rN 5)))))) (rRet (rO (rC (.bool false)))) rNext)
  (rSeq (rFor (rRng1 (rD (rOp dAdd (rN 5) (rP (rC (.int 2)))))) (rGn 8) (rRb (rR1 (rR2 (rR3 (rR4 (rR5 (rR6 rR7))))))))
  (rRet (rO (rC (.bool true)))))))
abbrev envR (a b : Int) (ns : List Str) (L : List Ln) (bl : List Nat) (m e c t0 t1 : Nat) (cu : O) (many : Nat) (Ws : List (List (Nat × Int))) (o10 o11 o14 o15 o16 o17 o18 : Option O) : Pf.Env := [some (plD a b), some (.d (lvD ns L)), some (.d (natsD bl)), some (.d (.int (m : Nat))), some (.d (.int (e : Nat))), some (.d (.int (c : Nat))), some (.own [.int (t0 : Nat), .int (t1 : Nat)]), some cu, some (.d (.int (many : Nat))), some (.d (.tuple (Ws.map wayD))), o10, o11, none, none, o14, o15, o16, o17, o18, none]
theorem nest_hD (n : Int) : Nest 2 (hD n) := ⟨(by decide : 2 ≤ 1000), fun x hx => by
  rcases List.mem_cons.mp hx with z | hx
  · rw [z]; exact trivial
  · rw [List.mem_singleton.mp hx]; exact trivial⟩
theorem nest_est {R : List (Option Int)} {Ws : List (List (Nat × Int))} (hz : Ws.length ≤ 100) : Nest 3 (estD R Ws) := ⟨by rw [List.length_map, List.length_map]; omega, fun x hx => by
  obtain ⟨n, _, rfl⟩ := List.mem_map.mp hx
  exact nest_hD n⟩
theorem chain_bl {L : List Ln} {bl bl' : List Nat} : ∀ {W : List (Nat × Int)} {b e : Nat}, (netOf L bl).Chain b W e → (netOf L bl').Chain b W e
  | [], _, _, h => h
  | _ :: _, _, _, h => ⟨h.1, chain_bl h.2⟩
theorem way_bl {L : List Ln} {bl bl' : List Nat} {W : List (Nat × Int)} {b e : Nat} (w : (netOf L bl).Way b e W) : (netOf L bl').Way b e W := ⟨w.ok, chain_bl w.chain, w.nodup⟩
theorem clear_of {L : List Ln} {bl : List Nat} {b e : Nat} {Ws : List (List (Nat × Int))} (G : Good (netOf L bl) b e Ws) : Ws.all (clearW bl) = true := List.all_eq_true.mpr fun W hW => List.all_eq_true.mpr fun s hs => by
  have := G.bl W hW s hs
  have h2 : bl.contains s.1 = false := this
  rw [h2]
  rfl
theorem good_turn {N : Fl.Net} {b e : Nat} {Ws : List (List (Nat × Int))} (G : Good N b e Ws) : Good N e b (Ws.reverse.map Fl.turnW) := by
  refine ⟨fun W h => ?_, fun W h s hs => ?_, ?_⟩
  · obtain ⟨V, hV, rfl⟩ := List.mem_map.mp h
    exact (G.way V (List.mem_reverse.mp hV)).turn
  · obtain ⟨V, hV, rfl⟩ := List.mem_map.mp h
    unfold Fl.turnW at hs
    obtain ⟨z, hz, rfl⟩ := List.mem_map.mp hs
    exact G.bl V (List.mem_reverse.mp hV) z (List.mem_reverse.mp hz)
  · have e1 : linesOf (Ws.reverse.map Fl.turnW) = (linesOf Ws).reverse := by
      unfold linesOf
      rw [List.map_map, List.reverse_flatten, List.map_map, ← List.map_reverse]
      congr 1
      exact List.map_congr_left fun W _ => Fl.lines_turn
    rw [e1]
    exact (List.reverse_perm _).nodup_iff.mpr G.nd
end K76
set_option Elab.async false
set_option linter.all false
set_option maxRecDepth 100000
set_option maxHeartbeats 1000000
set_option exponentiation.threshold 20000
set_option pp.deepTerms false
set_option pp.maxSteps 500
namespace K76
open PySem PySem.Spec PyProof.Rows L2 Pf
local macro_rules | `(tactic| walk_at "go") => `(tactic| (conv => whnf) <;> repeat ((first | refine atE rfl ?_ | refine andR ?_ ?_); (conv => whnf)))
local macro_rules | `(tactic| walk_at "wh") => `(tactic| conv => whnf)
local macro_rules | `(tactic| walk_at "len") => `(tactic| (intro os Q h; (repeat (obtain ⟨_, h⟩ := h)); subst_vars; rfl))
local macro_rules | `(tactic| walk_at "keep") => `(tactic| (intro os Q h; (repeat (obtain ⟨_, h⟩ := h)); subst_vars; simp [keepOk]))
local macro_rules | `(tactic| walk_at "mono") => `(tactic| (intro os k k' f; repeat (first | exact f _ _ | refine Exists.imp fun _ => ?_ | refine And.imp_right ?_ | refine forall_imp fun _ => ?_)))
open Fl (Net)
section
variable {E : Pf.End} {a b : Int} {ns : List Str} {L : List Ln} {bl : List Nat} {m e c t0 t1 : Nat} {cu : O} {many : Nat} {Ws : List (List (Nat × Int))} {o10 o11 o14 o15 o16 o17 o18 : Option O}
theorem p7 {R : List (Option Int)} {x : Int} (hz : Ws.length ≤ 100) (hr : Read R Ws) (q : E.nx (envR a b ns L bl m e c t0 t1 cu many Ws o10 o11 o14 (some (.d (readsD R))) (some (.d (estD R Ws))) (some (.d (hD x))) (some (.d (.tuple [hD x, .int ((Ws.map (est R)).count x : Nat)]))))) :
    rR7 E (envR a b ns L bl m e c t0 t1 cu many Ws o10 o11 o14 (some (.d (readsD R))) (some (.d (estD R Ws))) (some (.d (hD x))) (some (.d (.tuple [hD x, .int ((Ws.map (est R)).count x : Nat)])))) := by
  unfold rR7
  walk_at "wh"
  refine ⟨R, Ws, rfl, hz, hr, ?_⟩
  walk_at "wh"
  refine ⟨estD R Ws, rfl, nest_est hz, ?_⟩
  walk_at "wh"
  refine lc_filterE (p := fun y => PyData.eqv y (hD x)) (g := id) (fun env => env = envR a b ns L bl m e c t0 t1 cu many Ws o10 o11 o14 (some (.d (readsD R))) (some (.d (estD R Ws))) (some (.d (hD x))) (some (.d (.tuple [hD x, .int ((Ws.map (est R)).count x : Nat)])))) rfl (by rw [List.length_map, List.length_map]; omega) (fun i' x' k1 k2 e' he' hx' ht hf => ?_) ?_
  · subst he'
    obtain ⟨z, hz, rfl⟩ := get_map hx'
    walk_at "go"
    · refine decI (fun h => ?_) (fun h => ?_)
      · have h : PyData.eqv (hD z) (hD x) = true := h
        walk_at "wh"
        exact ht h _ rfl
      · have h : ¬ PyData.eqv (hD z) (hD x) = true := h
        walk_at "wh"
        exact hf (by simpa using h) _ rfl
    · rfl
    · rfl
  rintro env rfl
  walk_at "wh"
  refine ⟨(by decide : 2 ≤ sizeLine), ?_⟩
  walk_at "wh"
  rw [count_filter]
  refine ⟨_, rfl, ⟨(by decide : 2 ≤ 1000), fun y hy => ?_⟩, ?_⟩
  · rcases List.mem_cons.mp hy with z | hy
    · rw [z]; exact nest_hD x
    · rw [List.mem_singleton.mp hy]; exact trivial
  walk_at "wh"
  exact q
end
end K76
set_option Elab.async false
set_option linter.all false
set_option maxRecDepth 100000
set_option maxHeartbeats 1000000
set_option exponentiation.threshold 20000
set_option pp.deepTerms false
set_option pp.maxSteps 500
namespace K76
open PySem PySem.Spec PyProof.Rows L2 Pf
local macro_rules | `(tactic| walk_at "go") => `(tactic| (conv => whnf) <;> repeat ((first | refine atE rfl ?_ | refine andR ?_ ?_); (conv => whnf)))
local macro_rules | `(tactic| walk_at "wh") => `(tactic| conv => whnf)
local macro_rules | `(tactic| walk_at "len") => `(tactic| (intro os Q h; (repeat (obtain ⟨_, h⟩ := h)); subst_vars; rfl))
local macro_rules | `(tactic| walk_at "keep") => `(tactic| (intro os Q h; (repeat (obtain ⟨_, h⟩ := h)); subst_vars; simp [keepOk]))
local macro_rules | `(tactic| walk_at "mono") => `(tactic| (intro os k k' f; repeat (first | exact f _ _ | refine Exists.imp fun _ => ?_ | refine And.imp_right ?_ | refine forall_imp fun _ => ?_)))
open Fl (Net)
section
variable {E : Pf.End} {k : RS} {a b : Int} {ns : List Str} {L : List Ln} {bl : List Nat} {m e c t0 t1 : Nat} {cu : O} {many : Nat} {Ws : List (List (Nat × Int))} {o10 o11 o14 o15 o16 o17 o18 : Option O}
theorem p6 {R : List (Option Int)} {Hs : List Int} {Wr : List Nat} {lies : Nat} (hz : Ws.length ≤ 100) (Li : Lies L bl Hs R Wr) (G : Good (netOf L bl) m e Ws) (h1 : Wr.length ≤ lies) (h2 : 2 * lies < Ws.length) (hL : ∀ l ∈ L, l.2.1 < 12 ∧ l.2.2 < 12) (hm12 : m < 12) (hm : m < Hs.length) (he : e < Hs.length) (hb : ∀ h ∈ Hs, h.natAbs ≤ 40)
    (q : ∀ x, Read R Ws → k E (envR a b ns L bl m e c t0 t1 cu many Ws o10 o11 (some (.d (.list (Hs.map hD)))) (some (.d (readsD R))) (some (.d (estD R Ws))) (some (.d (hD x))) (some (.d (.tuple [hD x, .int ((Ws.map (est R)).count x : Nat)]))))) :
    rR6 k E (envR a b ns L bl m e c t0 t1 cu many Ws o10 o11 (some (.d (.list (Hs.map hD)))) (some (.d (readsD R))) o16 o17 o18) := by
  have hr := read_of Li G hL hm12
  have hmost := right_many Li G h1 h2
  have gm := getD_at hm
  have ge := getD_at he
  have bm := hb _ (List.mem_of_getElem? gm)
  have be := hb _ (List.mem_of_getElem? ge)
  have ex : Hs.getD e 0 - Hs.getD m 0 = Hs.getD e 0 + -1 * Hs.getD m 0 := by omega
  rw [ex] at hmost
  unfold rR6
  walk_at "wh"
  refine ⟨R, Ws, rfl, hz, hr, ?_⟩
  walk_at "wh"
  refine ⟨_, atI_map ge, ?_⟩
  walk_at "wh"
  refine ⟨_, atI_map gm, ?_⟩
  walk_at "wh"
  refine ⟨hv (Hs.getD e 0), hv (Hs.getD m 0), -1, 20, 20, rfl, hv_fit (by omega), hv_fit (by omega), by decide, .inr rfl, ?_⟩
  rw [hv_step]
  walk_at "wh"
  refine ⟨R, Ws, Hs.getD e 0 + -1 * Hs.getD m 0, rfl, hz, hr, hmost, ?_⟩
  walk_at "wh"
  exact q _ hr
end
end K76
set_option Elab.async false
set_option linter.all false
set_option maxRecDepth 100000
set_option maxHeartbeats 1000000
set_option exponentiation.threshold 20000
set_option pp.deepTerms false
set_option pp.maxSteps 500
namespace K76
open PySem PySem.Spec PyProof.Rows L2 Pf
local macro_rules | `(tactic| walk_at "go") => `(tactic| (conv => whnf) <;> repeat ((first | refine atE rfl ?_ | refine andR ?_ ?_); (conv => whnf)))
local macro_rules | `(tactic| walk_at "wh") => `(tactic| conv => whnf)
local macro_rules | `(tactic| walk_at "len") => `(tactic| (intro os Q h; (repeat (obtain ⟨_, h⟩ := h)); subst_vars; rfl))
local macro_rules | `(tactic| walk_at "keep") => `(tactic| (intro os Q h; (repeat (obtain ⟨_, h⟩ := h)); subst_vars; simp [keepOk]))
local macro_rules | `(tactic| walk_at "mono") => `(tactic| (intro os k k' f; repeat (first | exact f _ _ | refine Exists.imp fun _ => ?_ | refine And.imp_right ?_ | refine forall_imp fun _ => ?_)))
open Fl (Net)
section
variable {E : Pf.End} {k : RS} {a b : Int} {ns : List Str} {L : List Ln} {bl : List Nat} {m e c t0 t1 : Nat} {cu : O} {many : Nat} {Ws : List (List (Nat × Int))} {o10 o11 o14 o15 o16 o17 o18 : Option O}
theorem p5 {line : Nat} (hp : PlOk a b) (hns : ns.length ≤ 12) (hl : L.length ≤ 60) (hL : ∀ l ∈ L, l.2.1 < ns.length ∧ l.2.2 < ns.length) (hm : m < ns.length) (he : e < ns.length) (hbl : ∀ x ∈ bl, x < L.length) (hbz : bl.length ≤ 60) (hz : Ws.length ≤ 60) (hW0 : 0 < Ws.length) (G : Good (netOf L bl) m e Ws) (hline : ∃ W ∈ Ws, ∃ s ∈ W, s.1 = line)
    (q : ∀ a b Hs R Wr lies, PlOk a b → Hs.length = ns.length → (∀ h ∈ Hs, h.natAbs ≤ 40) → Lies L bl Hs R Wr → Wr.length ≤ lies → 2 * lies < Ws.length → k E (envR a b ns L bl m e c t0 t1 cu Ws.length Ws o10 (some (.d (.int (line : Nat)))) (some (.d (.list (Hs.map hD)))) (some (.d (readsD R))) o16 o17 o18)) :
    rR5 k E (envR a b ns L bl m e c t0 t1 cu Ws.length Ws o10 (some (.d (.int (line : Nat)))) o14 o15 o16 o17 o18) := by
  have hL12 : ∀ l ∈ L, l.2.1 < 12 ∧ l.2.2 < 12 := fun l h => by have := hL l h; omega
  unfold rR5
  walk_at "wh"
  refine ⟨(by decide : 1 ≤ sizeLine), ?_⟩
  walk_at "wh"
  refine ⟨by rw [natD_len, sizeLine_eq]; show _ + 1 ≤ _; omega, ?_⟩
  walk_at "wh"
  · refine ⟨natI (bl ++ [line]), ?_, ?_, fun ns' hp1 hs1 => ?_⟩
    · rw [natD_snoc]; exact intsOf_nat _
    · rw [natI_len, List.length_append, List.length_singleton]; omega
    obtain ⟨bl2, rfl, hmem⟩ : ∃ bl2 : List Nat, ns' = natI bl2 ∧ line ∈ bl2 := by
      refine ⟨ns'.map Int.toNat, ?_, List.mem_map.mpr ⟨(line : Nat), hp1.mem_iff.mpr (List.mem_map.mpr ⟨line, by simp, rfl⟩), by simp⟩⟩
      unfold natI
      rw [List.map_map]
      refine ((List.map_congr_left (g := id) fun x hx => ?_).trans (List.map_id _)).symm
      obtain ⟨y, _, rfl⟩ := List.mem_map.mp (hp1.mem_iff.mp hx)
      simp
    rw [show (natI bl2).map PyData.int = natD bl2 by unfold natI natD; rw [List.map_map]; rfl]
    walk_at "wh"
    have e1 : (decide (((Ws.length : Nat) : Int) = (Ws.length : Nat)) && Ws.all (clearW bl2)) = false := by
      obtain ⟨W, hW, s, hs, rfl⟩ := hline
      have : Ws.all (clearW bl2) = false := by
        rw [← Bool.not_eq_true, List.all_eq_true]
        intro z
        have := List.all_eq_true.mp (z W hW) s hs
        rw [List.contains_iff_mem.mpr hmem] at this
        cases this
      rw [this, Bool.and_false]
    refine ⟨ns, L, bl2, m, e, _, Ws, rfl, hl, hL12, by omega, by omega, fun W hW => way_bl (G.way W hW), G.nd, ?_⟩
    rw [e1]
    walk_at "wh"
    refine ⟨_, rfl, trivial, ?_⟩
    walk_at "wh"
    refine ⟨⟨by decide, by decide⟩, ?_⟩
    walk_at "wh"
    refine ⟨a, b, (Ws.length + 1) / 2, ?_, hp, by omega, by omega, fun x a2 b2 hx hp2 => ?_⟩
    · show [plD a b, O.d (.int ((((Ws.length : Nat) : Int) + 1).fdiv 2))] = _
      rw [Int.fdiv_eq_ediv_of_nonneg _ (by decide), show (((Ws.length : Nat) : Int) + 1) / 2 = (((Ws.length + 1) / 2 : Nat) : Int) by omega]
    walk_at "wh"
    refine ⟨a2, b2, 2, rfl, hp2, by decide, by decide, fun y a3 b3 hy hp3 => ?_⟩
    walk_at "wh"
    refine ⟨mul_fit (k := 2) (l := 2) (by decide) (by rw [Int.natAbs_natCast]; omega) (by decide) (by decide), ?_⟩
    walk_at "wh"
    refine ⟨a3, b3, ns, L, bl, x, 2 * y, rfl, hp3, hns, hl, hL, hbl, by omega, by omega, by omega, fun Hs R Wr a4 b4 hHl hH40 Li hWr hp4 => ?_⟩
    walk_at "wh"
    refine ⟨rfl, ?_⟩
    exact q a4 b4 Hs R Wr x hp4 hHl hH40 Li hWr (by omega)
end
end K76
set_option Elab.async false
set_option linter.all false
set_option maxRecDepth 100000
set_option maxHeartbeats 1000000
set_option exponentiation.threshold 20000
set_option pp.deepTerms false
set_option pp.maxSteps 500
namespace K76
open PySem PySem.Spec PyProof.Rows L2 Pf
local macro_rules | `(tactic| walk_at "go") => `(tactic| (conv => whnf) <;> repeat ((first | refine atE rfl ?_ | refine andR ?_ ?_); (conv => whnf)))
local macro_rules | `(tactic| walk_at "wh") => `(tactic| conv => whnf)
local macro_rules | `(tactic| walk_at "len") => `(tactic| (intro os Q h; (repeat (obtain ⟨_, h⟩ := h)); subst_vars; rfl))
local macro_rules | `(tactic| walk_at "keep") => `(tactic| (intro os Q h; (repeat (obtain ⟨_, h⟩ := h)); subst_vars; simp [keepOk]))
local macro_rules | `(tactic| walk_at "mono") => `(tactic| (intro os k k' f; repeat (first | exact f _ _ | refine Exists.imp fun _ => ?_ | refine And.imp_right ?_ | refine forall_imp fun _ => ?_)))
open Fl (Net)
section
variable {E : Pf.End} {k : RS} {a b : Int} {ns : List Str} {L : List Ln} {bl : List Nat} {m e c t0 t1 : Nat} {cu : O} {many : Nat} {Ws : List (List (Nat × Int))} {o10 o11 o14 o15 o16 o17 o18 : Option O}
theorem p4 (hp : PlOk a b) (hns : ns.length ≤ 12) (hl : L.length ≤ 60) (hL : ∀ l ∈ L, l.2.1 < ns.length ∧ l.2.2 < ns.length) (hm : m < ns.length) (he : e < ns.length) (hme : m ≠ e) (hbl : ∀ x ∈ bl, x < L.length) (hbz : bl.length ≤ 60) (hz : Ws.length ≤ 60) (hW0 : 0 < Ws.length) (G : Good (netOf L bl) m e Ws)
    (q : ∀ a b (line : Nat), PlOk a b → (∃ W ∈ Ws, ∃ s ∈ W, s.1 = line) → k E (envR a b ns L bl m e c t0 t1 cu Ws.length Ws o10 (some (.d (.int (line : Nat)))) o14 o15 o16 o17 o18)) :
    rR4 k E (envR a b ns L bl m e c t0 t1 cu Ws.length Ws o10 o11 o14 o15 o16 o17 o18) := by
  have hL12 : ∀ l ∈ L, l.2.1 < 12 ∧ l.2.2 < 12 := fun l h => by have := hL l h; omega
  have Gt : Good (netOf L bl) m e (Ws.drop 1) := ⟨fun W h => G.way W (List.mem_of_mem_drop h), fun W h => G.bl W (List.mem_of_mem_drop h), by
    have := G.nd
    rw [show linesOf Ws = linesOf (Ws.take 1) ++ linesOf (Ws.drop 1) by unfold linesOf; rw [← List.flatten_append, ← List.map_append, List.take_append_drop]] at this
    exact (List.nodup_append.mp this).2.1⟩
  unfold rR4
  walk_at "wh"
  have ec : cut (Ws.map wayD) (some 1) none = (Ws.drop 1).map wayD := by
    rw [show (1 : Int) = ((1 : Nat) : Int) from rfl, cut_drop, List.map_drop]
  have ld : (Ws.drop 1).length = Ws.length - 1 := List.length_drop
  rw [ec]
  have e1 : (decide (((((Ws.drop 1).length : Nat) : Int)) = ((Ws.length : Nat) : Int) - 1) && (Ws.drop 1).all (clearW bl)) = true := by
    rw [clear_of Gt, Bool.and_true, decide_eq_true_iff, ld]
    omega
  refine ⟨ns, L, bl, m, e, _, Ws.drop 1, rfl, hl, hL12, by omega, by rw [ld]; omega, Gt.way, Gt.nd, ?_⟩
  rw [e1]
  walk_at "wh"
  refine ⟨_, rfl, trivial, ?_⟩
  walk_at "wh"
  refine ⟨a, b, Ws.length, rfl, hp, hW0, by omega, fun y a2 b2 hy hp2 => ?_⟩
  obtain ⟨W, hW, hWm⟩ := getAt hy
  obtain ⟨s, hs, hsm⟩ : ∃ s, W[0]? = some s ∧ s ∈ W := by
    have := (G.way W hWm).ne hme
    cases W with
    | nil => exact absurd rfl this
    | cons s Wr => exact ⟨_, rfl, List.mem_cons_self⟩
  walk_at "wh"
  refine ⟨_, atI_map hW, ?_⟩
  walk_at "wh"
  refine ⟨_, atI_map (i := 0) hs, ?_⟩
  walk_at "wh"
  refine ⟨_, rfl, ?_⟩
  walk_at "wh"
  exact q a2 b2 s.1 hp2 ⟨_, hWm, s, hsm, rfl⟩
end
end K76
set_option Elab.async false
set_option linter.all false
set_option maxRecDepth 100000
set_option maxHeartbeats 1000000
set_option exponentiation.threshold 20000
set_option pp.deepTerms false
set_option pp.maxSteps 500
namespace K76
open PySem PySem.Spec PyProof.Rows L2 Pf
local macro_rules | `(tactic| walk_at "go") => `(tactic| (conv => whnf) <;> repeat ((first | refine atE rfl ?_ | refine andR ?_ ?_); (conv => whnf)))
local macro_rules | `(tactic| walk_at "wh") => `(tactic| conv => whnf)
local macro_rules | `(tactic| walk_at "len") => `(tactic| (intro os Q h; (repeat (obtain ⟨_, h⟩ := h)); subst_vars; rfl))
local macro_rules | `(tactic| walk_at "keep") => `(tactic| (intro os Q h; (repeat (obtain ⟨_, h⟩ := h)); subst_vars; simp [keepOk]))
local macro_rules | `(tactic| walk_at "mono") => `(tactic| (intro os k k' f; repeat (first | exact f _ _ | refine Exists.imp fun _ => ?_ | refine And.imp_right ?_ | refine forall_imp fun _ => ?_)))
open Fl (Net)
section
variable {E : Pf.End} {k : RS} {a b : Int} {ns : List Str} {L : List Ln} {bl : List Nat} {m e c t0 t1 : Nat} {cu : O} {many : Nat} {Ws : List (List (Nat × Int))} {o10 o11 o14 o15 o16 o17 o18 : Option O}
theorem p3 {V : List (List (Nat × Int))} (eV : V = Ws.reverse.map Fl.turnW) (hp : PlOk a b) (hns : ns.length ≤ 12) (hl : L.length ≤ 60) (hL : ∀ l ∈ L, l.2.1 < ns.length ∧ l.2.2 < ns.length) (hm : m < ns.length) (he : e < ns.length) (hme : m ≠ e) (hbl : ∀ x ∈ bl, x < L.length) (hbz : bl.length ≤ 60) (hz : Ws.length ≤ 60) (G : Good (netOf L bl) m e Ws)
    (q4 : 0 < Ws.length → k E (envR a b ns L bl m e c t0 t1 cu Ws.length Ws (some (.d (.tuple (V.map wayD)))) o11 o14 o15 o16 o17 o18)) (q : E.nx (envR a b ns L bl m e c t0 t1 cu Ws.length Ws (some (.d (.tuple (V.map wayD)))) o11 o14 o15 o16 o17 o18)) :
    rR3 k E (envR a b ns L bl m e c t0 t1 cu Ws.length Ws (some (.d (.tuple (V.map wayD)))) o11 o14 o15 o16 o17 o18) := by
  have hL12 : ∀ l ∈ L, l.2.1 < 12 ∧ l.2.2 < 12 := fun l h => by have := hL l h; omega
  have GV : Good (netOf L bl) e m V := eV ▸ good_turn G
  have lV : V.length = Ws.length := by rw [eV, List.length_map, List.length_reverse]
  unfold rR3
  walk_at "wh"
  refine ⟨ns, L, bl, e, m, _, V, rfl, hl, hL12, by omega, by omega, GV.way, GV.nd, ?_⟩
  have e1 : (decide (((V.length : Nat) : Int) = (Ws.length : Nat)) && V.all (clearW bl)) = true := by
    rw [clear_of GV, Bool.and_true, decide_eq_true_iff, lV]
  rw [e1]
  walk_at "wh"
  refine ⟨_, rfl, trivial, ?_⟩
  walk_at "wh"
  refine ⟨ns, L, bl, m, e, _, Ws, rfl, hl, hL12, by omega, by omega, G.way, G.nd, ?_⟩
  have e2 : (decide (((Ws.length : Nat) : Int) = ((Ws.length : Nat) : Int) + 1) && Ws.all (clearW bl)) = false := by
    rw [decide_eq_false (by omega), Bool.false_and]
  rw [e2]
  walk_at "wh"
  refine ⟨_, rfl, trivial, ?_⟩
  unfold rRif
  walk_at "wh"
  refine decI (fun h => ?_) (fun h => ?_)
  · have h : decide ((0 : Int) < ((Ws.length : Nat) : Int)) = true := h
    have h := of_decide_eq_true h
    walk_at "wh"
    exact q4 (by omega)
  · walk_at "wh"
    exact q
end
end K76
set_option Elab.async false
set_option linter.all false
set_option maxRecDepth 100000
set_option maxHeartbeats 1000000
set_option exponentiation.threshold 20000
set_option pp.deepTerms false
set_option pp.maxSteps 500
namespace K76
open PySem PySem.Spec PyProof.Rows L2 Pf
local macro_rules | `(tactic| walk_at "go") => `(tactic| (conv => whnf) <;> repeat ((first | refine atE rfl ?_ | refine andR ?_ ?_); (conv => whnf)))
local macro_rules | `(tactic| walk_at "wh") => `(tactic| conv => whnf)
local macro_rules | `(tactic| walk_at "len") => `(tactic| (intro os Q h; (repeat (obtain ⟨_, h⟩ := h)); subst_vars; rfl))
local macro_rules | `(tactic| walk_at "keep") => `(tactic| (intro os Q h; (repeat (obtain ⟨_, h⟩ := h)); subst_vars; simp [keepOk]))
local macro_rules | `(tactic| walk_at "mono") => `(tactic| (intro os k k' f; repeat (first | exact f _ _ | refine Exists.imp fun _ => ?_ | refine And.imp_right ?_ | refine forall_imp fun _ => ?_)))
open Fl (Net)
section
variable {E : Pf.End} {k : RS} {a b : Int} {ns : List Str} {L : List Ln} {bl : List Nat} {m e c t0 t1 : Nat} {cu : O} {many : Nat} {Ws : List (List (Nat × Int))} {o10 o11 o14 o15 o16 o17 o18 : Option O}
theorem p2 (hp : PlOk a b) (hns : ns.length ≤ 12) (hl : L.length ≤ 60) (hL : ∀ l ∈ L, l.2.1 < ns.length ∧ l.2.2 < ns.length) (hm : m < ns.length) (he : e < ns.length) (hme : m ≠ e) (hbl : ∀ x ∈ bl, x < L.length) (hbz : bl.length ≤ 60) (hz : Ws.length ≤ 60) (G : Good (netOf L bl) m e Ws)
    (q : ∀ o11, k E (envR a b ns L bl m e c t0 t1 cu Ws.length Ws (some (.d (.tuple ((Ws.reverse.map Fl.turnW).map wayD)))) o11 o14 o15 o16 o17 o18)) :
    rR2 k E (envR a b ns L bl m e c t0 t1 cu Ws.length Ws o10 o11 o14 o15 o16 o17 o18) := by
  have hL12 : ∀ l ∈ L, l.2.1 < 12 ∧ l.2.2 < 12 := fun l h => by have := hL l h; omega
  unfold rR2
  walk_at "wh"
  refine lc_mapE (xs := (Ws.map wayD).reverse) (ys := (Ws.reverse.map Fl.turnW).map wayD) (fun env => ∃ o11, env = envR a b ns L bl m e c t0 t1 cu Ws.length Ws o10 o11 o14 o15 o16 o17 o18) ⟨_, rfl⟩ (by simp) (by simp; omega) (fun i x y k e' he' hx hy hk => ?_) ?_
  · obtain ⟨o11, rfl⟩ := he'
    rw [← List.map_reverse] at hx
    obtain ⟨W, hW, rfl⟩ := get_map hx
    rw [List.getElem?_map, List.getElem?_map, hW] at hy
    cases hy
    have hWm := List.mem_reverse.mp (List.mem_of_getElem? hW)
    have hWl := way_few hL12 (by omega) (G.way W hWm)
    walk_at "wh"
    refine lc_mapE (xs := (W.map stD).reverse) (ys := (Fl.turnW W).map stD) (fun env => ∃ o11, env = (envR a b ns L bl m e c t0 t1 cu Ws.length Ws o10 o11 o14 o15 o16 o17 o18).set 13 (some (.d (wayD W)))) ⟨_, rfl⟩ (by unfold Fl.turnW; simp) (by simp; omega) (fun i x y k e' he' hx hy hk => ?_) ?_
    · obtain ⟨o11, rfl⟩ := he'
      rw [← List.map_reverse] at hx
      obtain ⟨s, hs, rfl⟩ := get_map hx
      unfold Fl.turnW at hy
      rw [List.getElem?_map, List.getElem?_map, hs] at hy
      cases hy
      walk_at "wh"
      refine ⟨rfl, ?_⟩
      walk_at "wh"
      refine ⟨(by decide : 2 ≤ sizeLine), ?_⟩
      walk_at "wh"
      exact hk _ ⟨_, rfl⟩
    rintro env ⟨o11, rfl⟩
    walk_at "wh"
    exact hk _ ⟨_, rfl⟩
  rintro env ⟨o11, rfl⟩
  walk_at "wh"
  exact q _
end
end K76
set_option Elab.async false
set_option linter.all false
set_option maxRecDepth 100000
set_option maxHeartbeats 1000000
set_option exponentiation.threshold 20000
set_option pp.deepTerms false
set_option pp.maxSteps 500
namespace K76
open PySem PySem.Spec PyProof.Rows L2 Pf
local macro_rules | `(tactic| walk_at "go") => `(tactic| (conv => whnf) <;> repeat ((first | refine atE rfl ?_ | refine andR ?_ ?_); (conv => whnf)))
local macro_rules | `(tactic| walk_at "wh") => `(tactic| conv => whnf)
local macro_rules | `(tactic| walk_at "len") => `(tactic| (intro os Q h; (repeat (obtain ⟨_, h⟩ := h)); subst_vars; rfl))
local macro_rules | `(tactic| walk_at "keep") => `(tactic| (intro os Q h; (repeat (obtain ⟨_, h⟩ := h)); subst_vars; simp [keepOk]))
local macro_rules | `(tactic| walk_at "mono") => `(tactic| (intro os k k' f; repeat (first | exact f _ _ | refine Exists.imp fun _ => ?_ | refine And.imp_right ?_ | refine forall_imp fun _ => ?_)))
open Fl (Net)
section
variable {E : Pf.End} {k : RS} {a b : Int} {ns : List Str} {L : List Ln} {bl : List Nat} {m e c t0 t1 : Nat} {cu : O} {many : Nat} {Ws : List (List (Nat × Int))} {o10 o11 o14 o15 o16 o17 o18 : Option O}
theorem p1 (hp : PlOk a b) (hns : ns.length ≤ 12) (hl : L.length ≤ 60) (hL : ∀ l ∈ L, l.2.1 < ns.length ∧ l.2.2 < ns.length) (hm : m < ns.length) (he : e < ns.length) (hme : m ≠ e) (hbl : ∀ x ∈ bl, x < L.length) (hbz : bl.length ≤ 60) (hz : Ws.length ≤ 60) (G : Good (netOf L bl) m e Ws)
    (q : k E (envR a b ns L bl m e c t0 t1 cu Ws.length Ws o10 o11 o14 o15 o16 o17 o18)) :
    rR1 k E (envR a b ns L bl m e c t0 t1 cu Ws.length Ws o10 o11 o14 o15 o16 o17 o18) := by
  have hL12 : ∀ l ∈ L, l.2.1 < 12 ∧ l.2.2 < 12 := fun l h => by have := hL l h; omega
  unfold rR1
  walk_at "wh"
  refine ⟨ns, L, bl, m, e, Ws, rfl, hl, hL12, by omega, by omega, G, ?_⟩
  walk_at "wh"
  refine ⟨ns, L, bl, m, e, _, Ws, rfl, hl, hL12, by omega, by omega, G.way, G.nd, ?_⟩
  have e1 : (decide (((Ws.length : Nat) : Int) = (Ws.length : Nat)) && Ws.all (clearW bl)) = true := by
    rw [clear_of G, Bool.and_true, decide_eq_true_iff]
  rw [e1]
  walk_at "wh"
  refine ⟨_, rfl, trivial, ?_⟩
  walk_at "wh"
  exact q
end
end K76
set_option Elab.async false
set_option linter.all false
set_option maxRecDepth 100000
set_option maxHeartbeats 1000000
set_option exponentiation.threshold 20000
set_option pp.deepTerms false
set_option pp.maxSteps 500
namespace K76
open PySem PySem.Spec PyProof.Rows L2 Pf
local macro_rules | `(tactic| walk_at "go") => `(tactic| (conv => whnf) <;> repeat ((first | refine atE rfl ?_ | refine andR ?_ ?_); (conv => whnf)))
local macro_rules | `(tactic| walk_at "wh") => `(tactic| conv => whnf)
local macro_rules | `(tactic| walk_at "len") => `(tactic| (intro os Q h; (repeat (obtain ⟨_, h⟩ := h)); subst_vars; rfl))
local macro_rules | `(tactic| walk_at "keep") => `(tactic| (intro os Q h; (repeat (obtain ⟨_, h⟩ := h)); subst_vars; simp [keepOk]))
local macro_rules | `(tactic| walk_at "mono") => `(tactic| (intro os k k' f; repeat (first | exact f _ _ | refine Exists.imp fun _ => ?_ | refine And.imp_right ?_ | refine forall_imp fun _ => ?_)))
open Fl (Net)
section
variable {E : Pf.End} {k : RS} {a b : Int} {ns : List Str} {L : List Ln} {bl : List Nat} {m e c t0 t1 : Nat} {cu : O} {many : Nat} {Ws : List (List (Nat × Int))} {o10 o11 o14 o15 o16 o17 o18 : Option O}
theorem pb {o9 : Option O} (hp : PlOk a b) (hns : ns.length ≤ 12) (hl : L.length ≤ 60) (hL : ∀ l ∈ L, l.2.1 < ns.length ∧ l.2.2 < ns.length) (hm : m < ns.length) (he : e < ns.length) (hme : m ≠ e) (hbl : ∀ x ∈ bl, x < L.length) (hbz : bl.length ≤ 60) (hc : IsMin (netOf L bl) m e c) (hc60 : c ≤ 60)
    (q1 : c < many → E.ct [some (plD a b), some (.d (lvD ns L)), some (.d (natsD bl)), some (.d (.int (m : Nat))), some (.d (.int (e : Nat))), some (.d (.int (c : Nat))), some (.own [.int ((t0 + 1 : Nat) : Nat), .int (t1 : Nat)]), some cu, some (.d (.int (many : Nat))), some (.d .none), o10, o11, none, none, o14, o15, o16, o17, o18, none])
    (q2 : many ≤ c → ∀ Ws, Ws.length = many → Good (netOf L bl) m e Ws → k E (envR a b ns L bl m e c t0 (t1 + 1) cu many Ws o10 o11 o14 o15 o16 o17 o18)) :
    rRb k E [some (plD a b), some (.d (lvD ns L)), some (.d (natsD bl)), some (.d (.int (m : Nat))), some (.d (.int (e : Nat))), some (.d (.int (c : Nat))), some (.own [.int (t0 : Nat), .int (t1 : Nat)]), some cu, some (.d (.int (many : Nat))), o9, o10, o11, none, none, o14, o15, o16, o17, o18, none] := by
  have hL12 : ∀ l ∈ L, l.2.1 < 12 ∧ l.2.2 < 12 := fun l h => by have := hL l h; omega
  unfold rRb
  walk_at "wh"
  refine ⟨ns, L, bl, m, e, many, c, rfl, hl, hL12, by omega, hme, hc, fun hlt => ?_, fun hle Ws hWl G => ?_⟩
  · have e1 : decide (((many : Nat) : Int) ≤ ((c : Nat) : Int)) = false := decide_eq_false (by omega)
    walk_at "wh"
    refine ⟨.int (t0 : Nat), by show atI _ (if decide _ = true then _ else _) = _; rw [e1]; rfl, ?_⟩
    walk_at "wh"
    refine ⟨0, by show ixN 2 (if decide _ = true then _ else _) = _; rw [e1]; rfl, ?_⟩
    walk_at "wh"
    refine decI (fun h => ?_) (fun h => ?_)
    rotate_left
    · have h : ¬ decide (((c : Nat) : Int) < ((many : Nat) : Int)) = true := h
      rw [decide_eq_true_iff] at h
      omega
    walk_at "wh"
    exact q1 hlt
  · subst hWl
    have e1 : decide (((Ws.length : Nat) : Int) ≤ ((c : Nat) : Int)) = true := decide_eq_true (by omega)
    walk_at "wh"
    refine ⟨.int (t1 : Nat), by show atI _ (if decide _ = true then _ else _) = _; rw [e1]; rfl, ?_⟩
    walk_at "wh"
    refine ⟨1, by show ixN 2 (if decide _ = true then _ else _) = _; rw [e1]; rfl, ?_⟩
    walk_at "wh"
    refine decI (fun h => ?_) (fun h => ?_)
    · have h : decide (((c : Nat) : Int) < ((Ws.length : Nat) : Int)) = true := h
      rw [decide_eq_true_iff] at h
      omega
    walk_at "wh"
    exact q2 hle Ws rfl G
end
end K76
set_option Elab.async false
set_option linter.all false
set_option maxRecDepth 100000
set_option maxHeartbeats 1000000
set_option exponentiation.threshold 20000
set_option pp.deepTerms false
set_option pp.maxSteps 500
namespace K76
open PySem PySem.Spec PyProof.Rows L2 Pf
local macro_rules | `(tactic| walk_at "go") => `(tactic| (conv => whnf) <;> repeat ((first | refine atE rfl ?_ | refine andR ?_ ?_); (conv => whnf)))
local macro_rules | `(tactic| walk_at "wh") => `(tactic| conv => whnf)
local macro_rules | `(tactic| walk_at "len") => `(tactic| (intro os Q h; (repeat (obtain ⟨_, h⟩ := h)); subst_vars; rfl))
local macro_rules | `(tactic| walk_at "keep") => `(tactic| (intro os Q h; (repeat (obtain ⟨_, h⟩ := h)); subst_vars; simp [keepOk]))
local macro_rules | `(tactic| walk_at "mono") => `(tactic| (intro os k k' f; repeat (first | exact f _ _ | refine Exists.imp fun _ => ?_ | refine And.imp_right ?_ | refine forall_imp fun _ => ?_)))
/-! the law's look at one pair of marks -/
open Fl (Net)
def sp_law_holds : FSp := fun os Q => ∃ (a b : Int) (ns : List Str) (L : List Ln) (bl : List Nat) (m e c t0 t1 : Nat), os = [plD a b, .d (lvD ns L), .d (natsD bl), .d (.int (m : Nat)), .d (.int (e : Nat)), .d (.int (c : Nat)), .own [.int (t0 : Nat), .int (t1 : Nat)]] ∧ PlOk a b ∧ ns.length ≤ 12 ∧ L.length ≤ 60 ∧ (∀ l ∈ L, l.2.1 < ns.length ∧ l.2.2 < ns.length) ∧ m < ns.length ∧ e < ns.length ∧ m ≠ e ∧ (∀ x ∈ bl, x < L.length) ∧ bl.length ≤ 60 ∧ IsMin (netOf L bl) m e c ∧ t0 + t1 ≤ 100000 ∧
  ∀ (a' b' : Int) (t0' t1' : Nat), PlOk a' b' → t0 < t0' → t1 < t1' → t0' + t1' ≤ t0 + t1 + 62 → Q (.d (.bool true)) [plD a' b', .d (lvD ns L), .d (natsD bl), .d (.int (m : Nat)), .d (.int (e : Nat)), .d (.int (c : Nat)), .own [.int (t0' : Nat), .int (t1' : Nat)]]
/-! ### _law_holds -/
abbrev s_law_holds : Stmt := topS 55
abbrev n_law_holds : List Str := ["pool", "levels", "blanks", "mark", "other", "least", "tally", "cut", "many", "told", "back", "line", "sign", "way", "heights", "readings", "due", "right", "vote", "one"]
theorem sc_law_holds : FnScope n_law_holds ["pool", "levels", "blanks", "mark", "other", "least", "tally"] (defScope s_law_holds) := ⟨rfl, rfl, rfl, by decide +kernel, rfl, by decide +kernel, by decide +kernel⟩
def r_law_holds : RS := (rSeq (rSet 7 (rCall sp_least_cut (rACons (rN 1) (rACons (rN 2) (rACons (rN 3) (rACons (rN 4) rANil))))))
  (rSeq (rIfS (rOr (rNot (rTb (rIsi isTuple (rN 7)))) (rOr (rCmp (dEq true) (rP (rD (rCB fLen (rACons (rN 7) rANil)))) (rP (rC (.int 2)))) (rOr (rNot (rTb (rD (rCall sp_law_is_cut (rACons (rN 1) (rACons (rN 3) (rACons (rN 4) (rACons (rP (rD (rOp dIx (rN 7) (rP (rC (.int 0)))))) rANil)))))))) (rOr (rNot (rTb (rD (rCall sp_law_same (rACons (rP (rD (rOp dIx (rN 7) (rP (rC (.int 1)))))) (rACons (rN 5) rANil)))))) (rCmp (dEq true) (rP (rD (rCall sp_law_count (rACons (rN 1) (rACons (rN 2) (rACons (rP (rD (rOp dIx (rN 7) (rP (rC (.int 0)))))) rANil)))))) (rN 5)))))) (rRet (rO (rC (.bool false)))) rNext)
  (rSeq (rFor (rRng1 (rD (rOp dAdd (rN 5) (rP (rC (.int 2)))))) (rGn 8) (rSeq (rSet 9 (rCall sp_ways_between (rACons (rN 1) (rACons (rN 2) (rACons (rN 3) (rACons (rN 4) (rACons (rN 8) rANil)))))))
  (rSeq (rSetIx 6 (rD (rOp dAdd (rP (rD (rOp dIx (rN 6) (rP (rD (rCB fInt (rACons (rP (rTV (rCmp bLe (rN 8) (rN 5)))) rANil))))))) (rP (rC (.int 1))))) (rD (rCB fInt (rACons (rP (rTV (rCmp bLe (rN 8) (rN 5)))) rANil))))
  (rSeq (rIfS (rCmp bGt (rN 8) (rN 5)) (rSeq (rIfS (rCmp (dIsN true) (rN 9) (rP (rC .none))) (rRet (rO (rC (.bool false)))) rNext)
  rCont) rNext)
  (rSeq (rIfS (rOr (rNot (rTb (rD (rCall sp_law_is_ways (rACons (rN 1) (rACons (rN 2) (rACons (rN 3) (rACons (rN 4) (rACons (rN 8) (rACons (rN 9) rANil)))))))))) (rNot (rTb (rD (rCall sp_law_same (rACons (rP (rD (rCall sp_is_ways (rACons (rN 1) (rACons (rN 2) (rACons (rN 3) (rACons (rN 4) (rACons (rN 8) (rACons (rN 9) rANil))))))))) (rACons (rP (rC (.bool true))) rANil))))))) (rRet (rO (rC (.bool false)))) rNext)
  (rSeq (rSet 10 (rCB fTuple (rACons (rP (rD (rLc (rFs (rD (rRevT (rN 9)))) (rGn 13) rYes (rD (rCB fTuple (rACons (rP (rD (rLc (rFs (rD (rRevT (rN 13)))) (rGt 2 (rGcons (rGn 11) (rGcons (rGn 12) rGnil))) rYes (rTup (rCons (rVar 11) (rCons (rNeg (rVar 12)) rNil))) [11, 12]))) rANil))) [13]))) rANil)))
  (rSeq (rIfS (rOr (rNot (rTb (rD (rCall sp_law_same (rACons (rP (rD (rCall sp_is_ways (rACons (rN 1) (rACons (rN 2) (rACons (rN 4) (rACons (rN 3) (rACons (rN 8) (rACons (rN 10) rANil))))))))) (rACons (rP (rC (.bool true))) rANil)))))) (rNot (rTb (rD (rCall sp_law_same (rACons (rP (rD (rCall sp_is_ways (rACons (rN 1) (rACons (rN 2) (rACons (rN 3) (rACons (rN 4) (rACons (rP (rD (rOp dAdd (rN 8) (rP (rC (.int 1)))))) (rACons (rN 9) rANil))))))))) (rACons (rP (rC (.bool false))) rANil))))))) (rRet (rO (rC (.bool false)))) rNext)
  (rIfS (rCmp bGt (rN 8) (rP (rC (.int 0)))) (rSeq (rIfS (rNot (rTb (rD (rCall sp_law_same (rACons (rP (rD (rCall sp_is_ways (rACons (rN 1) (rACons (rN 2) (rACons (rN 3) (rACons (rN 4) (rACons (rP (rD (rOp bSub (rN 8) (rP (rC (.int 1)))))) (rACons (rP (rD (rSl (rN 9) (rSoI (rC (.int 1))) rNoI))) rANil))))))))) (rACons (rP (rC (.bool true))) rANil)))))) (rRet (rO (rC (.bool false)))) rNext)
  (rSeq (rSet 11 (rO (rD (rOp dIx (rP (rD (rOp dIx (rP (rD (rOp dIx (rN 9) (rP (rD (rCall sp_law_draw (rACons (rN 0) (rACons (rN 8) rANil)))))))) (rP (rC (.int 0)))))) (rP (rC (.int 0)))))))
  (rSeq (rIfS (rNot (rTb (rD (rCall sp_law_same (rACons (rP (rD (rCall sp_is_ways (rACons (rN 1) (rACons (rP (rD (rCB fTuple (rACons (rP (rD (rCB fSortedT (rACons (rP (rD (rOp dAdd (rN 2) (rP (rTup (rCons (rVar 11) rNil)))))) rANil)))) rANil)))) (rACons (rN 3) (rACons (rN 4) (rACons (rN 8) (rACons (rN 9) rANil))))))))) (rACons (rP (rC (.bool false))) rANil)))))) (rRet (rO (rC (.bool false)))) rNext)
  (rSeq (rAsgT (rD (rCall sp_law_lies (rACons (rN 0) (rACons (rN 1) (rACons (rN 2) (rACons (rP (rD (rCall sp_law_draw (rACons (rN 0) (rACons (rP (rD (rOp bFdiv (rP (rD (rOp dAdd (rN 8) (rP (rC (.int 1)))))) (rP (rC (.int 2)))))) rANil))))) (rACons (rP (rD (rOp dMul (rP (rC (.int 2))) (rP (rD (rCall sp_law_draw (rACons (rN 0) (rACons (rP (rC (.int 2))) rANil)))))))) rANil))))))) (rGt 2 (rGcons (rGn 14) (rGcons (rGn 15) rGnil))))
  (rSeq (rSet 16 (rCall sp_law_estimates (rACons (rN 15) (rACons (rN 9) rANil))))
  (rSeq (rSet 17 (rCall sp_law_plus (rACons (rP (rD (rOp dIx (rN 14) (rN 4)))) (rACons (rP (rD (rOp dIx (rN 14) (rN 3)))) (rACons (rP (rNeg (rC (.int 1)))) rANil)))))
  (rSeq (rSet 18 (rCall sp_way_vote (rACons (rN 15) (rACons (rN 9) rANil))))
  (rIfS (rOr (rNot (rTb (rD (rCall sp_law_same (rACons (rP (rD (rCall sp_way_estimates (rACons (rN 15) (rACons (rN 9) rANil))))) (rACons (rN 16) rANil)))))) (rNot (rTb (rD (rCall sp_law_same (rACons (rN 18) (rACons (rP (rTup (rCons (rVar 17) (rCons (rD (rCB fLen (rACons (rP (rD (rLc (rFs (rVar 16)) (rGn 19) (rCmp (dEq false) (rN 19) (rN 17)) (rVar 19) [19]))) rANil))) rNil)))) rANil))))))) (rRet (rO (rC (.bool false)))) rNext)))))))) rNext))))))))
  (rRet (rO (rC (.bool true)))))))
theorem q_law_holds {P : Program} {w : World} {K : Fg} {mg : Str → Option Value} {base : Heap} {f : Addr} (g : Gs K mg) (h_ways_between : Has P w K mg base "ways_between" ["levels", "blanks", "mark", "other", "many"] 4 sp_ways_between) (h_is_ways : Has P w K mg base "is_ways" ["levels", "blanks", "mark", "other", "many", "thing"] 5 sp_is_ways) (h_least_cut : Has P w K mg base "least_cut" ["levels", "blanks", "mark", "other"] 4 sp_least_cut) (h_way_estimates : Has P w K mg base "way_estimates" ["readings", "ways"] 4 sp_way_estimates) (h_way_vote : Has P w K mg base "way_vote" ["readings", "ways"] 5 sp_way_vote) (h_law_draw : Has P w K mg base "_law_draw" ["pool", "many"] 1 sp_law_draw) (h_law_same : Has P w K mg base "_law_same" ["told", "due"] 4 sp_law_same) (h_law_plus : Has P w K mg base "_law_plus" ["one", "other", "sign"] 2 sp_law_plus) (h_law_count : Has P w K mg base "_law_count" ["levels", "blanks", "marks"] 1 sp_law_count) (h_law_is_ways : Has P w K mg base "_law_is_ways" ["levels", "blanks", "mark", "other", "many", "thing"] 1 sp_law_is_ways) (h_law_is_cut : Has P w K mg base "_law_is_cut" ["levels", "mark", "other", "thing"] 1 sp_law_is_cut) (h_law_estimates : Has P w K mg base "_law_estimates" ["readings", "ways"] 3 sp_law_estimates) (h_law_lies : Has P w K mg base "_law_lies" ["pool", "levels", "blanks", "lies", "most"] 3 sp_law_lies) (cdv : Value) (A : Around) (outer : List PySem.Env) (s : Shared) (H : Hp) (E : XK) (hr : Room 5 (A.deeper (envOfC "_law_holds" (defScope s_law_holds) s.heap.objs.size f cdv))) :
    QSs (cxOf CX0 P w K mg base n_law_holds "_law_holds" (defScope s_law_holds) f cdv A outer s H E).nox [0, 6] (defBody s_law_holds) r_law_holds :=
  (qss_cons (qs_set 7 sc_law_holds.nd (qe_call h_least_cut (hr.mono (by decide)) (qa_cons (qp_var 1) (qa_cons (qp_var 2) (qa_cons (qp_var 3) (qa_cons (qp_var 4) qa_nil))))))
  (qss_cons (qs_if (QW.t (qw_or (qt_not (qt_call (qv_isi_tuple g.isinstance g.tuple (qp_var 7)))) (qw_or (qt_ne hr.units ((QE.v (qe_len g.len (qa_cons (qp_var 7) qa_nil)))).p (qv_int).p) (qw_or (qt_not (qt_call (QE.v (qe_call h_law_is_cut (hr.mono (by decide)) (qa_cons (qp_var 1) (qa_cons (qp_var 3) (qa_cons (qp_var 4) (qa_cons ((qv_ix (qp_var 7) (qv_int).p)).p qa_nil)))))))) (qw_or (qt_not (qt_call (QE.v (qe_call h_law_same (hr.mono (by decide)) (qa_cons ((qv_ix (qp_var 7) (qv_int).p)).p (qa_cons (qp_var 5) qa_nil)))))) (qw_or1 (qt_ne hr.units ((QE.v (qe_call h_law_count (hr.mono (by decide)) (qa_cons (qp_var 1) (qa_cons (qp_var 2) (qa_cons ((qv_ix (qp_var 7) (qv_int).p)).p qa_nil)))))).p (qp_var 5)))))))) (qss_one (qs_ret (QV.o qv_bl))) qss_nil)
  (qss_cons (qs_for PassesOwn.never rfl (qf_range1 g.range (QE.v (qe_add (qp_var 5) (qv_int).p))) (qg_name 8 sc_law_holds.nd) (qss_cons (qs_set 9 sc_law_holds.nd (qe_call h_ways_between (hr.mono (by decide)) (qa_cons (qp_var 1) (qa_cons (qp_var 2) (qa_cons (qp_var 3) (qa_cons (qp_var 4) (qa_cons (qp_var 8) qa_nil)))))))
  (qss_cons (qs_setIx 6 (QE.v (qe_add ((qv_ix (qp_var 6) ((QE.v (qe_int g.int (qa_cons ((qv_le (qp_var 8) (qp_var 5))).p qa_nil)))).p)).p (qv_int).p)) (QE.v (qe_int g.int (qa_cons ((qv_le (qp_var 8) (qp_var 5))).p qa_nil))))
  (qss_cons (qs_if (qt_gt (qp_var 8) (qp_var 5)) (qss_cons (qs_if (qt_notN (qp_var 9) (qv_non).p) (qss_one (qs_ret (QV.o qv_bl))) qss_nil)
  (qss_one qs_cont)) qss_nil)
  (qss_cons (qs_if (QW.t (qw_or (qt_not (qt_call (QE.v (qe_call h_law_is_ways (hr.mono (by decide)) (qa_cons (qp_var 1) (qa_cons (qp_var 2) (qa_cons (qp_var 3) (qa_cons (qp_var 4) (qa_cons (qp_var 8) (qa_cons (qp_var 9) qa_nil)))))))))) (qw_or1 (qt_not (qt_call (QE.v (qe_call h_law_same (hr.mono (by decide)) (qa_cons ((QE.v (qe_call h_is_ways (hr.mono (by decide)) (qa_cons (qp_var 1) (qa_cons (qp_var 2) (qa_cons (qp_var 3) (qa_cons (qp_var 4) (qa_cons (qp_var 8) (qa_cons (qp_var 9) qa_nil))))))))).p (qa_cons (qv_bl).p qa_nil))))))))) (qss_one (qs_ret (QV.o qv_bl))) qss_nil)
  (qss_cons (qs_set 10 sc_law_holds.nd (qe_tuple g.tuple (qa_cons ((QE.v (qe_lc (own := [("way", 13)]) rfl sc_law_holds.nd (qf_seq (QE.v (qe_revT (qp_var 9)))) (blkOk_by (by rfl)) (fun _ _ _ _ _ => (qg_name 13 sc_law_holds.nd)) (fun _ _ _ _ _ => qts_nil) (fun _ _ _ _ _ => (QE.v (qe_tuple g.tuple (qa_cons ((QE.v (qe_lc (own := [("line", 11), ("sign", 12)]) rfl sc_law_holds.nd (qf_seq (QE.v (qe_revT (qp_var 13)))) (blkOk_by (by rfl)) (fun _ _ _ _ _ => (qg_tup 2 rfl (qgs_cons (qg_name 11 sc_law_holds.nd) (qgs_cons (qg_name 12 sc_law_holds.nd) qgs_nil)))) (fun _ _ _ _ _ => qts_nil) (fun _ _ _ _ _ => (qv_tup (ql_cons (qv_var 11) (ql_cons (qv_neg (qv_var 12)) ql_nil))))))).p qa_nil))))))).p qa_nil)))
  (qss_cons (qs_if (QW.t (qw_or (qt_not (qt_call (QE.v (qe_call h_law_same (hr.mono (by decide)) (qa_cons ((QE.v (qe_call h_is_ways (hr.mono (by decide)) (qa_cons (qp_var 1) (qa_cons (qp_var 2) (qa_cons (qp_var 4) (qa_cons (qp_var 3) (qa_cons (qp_var 8) (qa_cons (qp_var 10) qa_nil))))))))).p (qa_cons (qv_bl).p qa_nil)))))) (qw_or1 (qt_not (qt_call (QE.v (qe_call h_law_same (hr.mono (by decide)) (qa_cons ((QE.v (qe_call h_is_ways (hr.mono (by decide)) (qa_cons (qp_var 1) (qa_cons (qp_var 2) (qa_cons (qp_var 3) (qa_cons (qp_var 4) (qa_cons ((QE.v (qe_add (qp_var 8) (qv_int).p))).p (qa_cons (qp_var 9) qa_nil))))))))).p (qa_cons (qv_bl).p qa_nil))))))))) (qss_one (qs_ret (QV.o qv_bl))) qss_nil)
  (qss_one (qs_if (qt_gt (qp_var 8) (qv_int).p) (qss_cons (qs_if (qt_not (qt_call (QE.v (qe_call h_law_same (hr.mono (by decide)) (qa_cons ((QE.v (qe_call h_is_ways (hr.mono (by decide)) (qa_cons (qp_var 1) (qa_cons (qp_var 2) (qa_cons (qp_var 3) (qa_cons (qp_var 4) (qa_cons ((QE.v (qe_sub (qp_var 8) (qv_int).p))).p (qa_cons ((QE.v (qe_slice (qp_var 9) (qi_some qv_int) qi_none))).p qa_nil))))))))).p (qa_cons (qv_bl).p qa_nil)))))) (qss_one (qs_ret (QV.o qv_bl))) qss_nil)
  (qss_cons (qs_set 11 sc_law_holds.nd (QV.o (qv_ix ((qv_ix ((qv_ix (qp_var 9) ((QE.v (qe_call h_law_draw (hr.mono (by decide)) (qa_cons (qp_var 0) (qa_cons (qp_var 8) qa_nil))))).p)).p (qv_int).p)).p (qv_int).p)))
  (qss_cons (qs_if (qt_not (qt_call (QE.v (qe_call h_law_same (hr.mono (by decide)) (qa_cons ((QE.v (qe_call h_is_ways (hr.mono (by decide)) (qa_cons (qp_var 1) (qa_cons ((QE.v (qe_tuple g.tuple (qa_cons ((QE.v (qe_sortedT g.sorted (qa_cons ((QE.v (qe_add (qp_var 2) ((qv_tup (ql_cons (qv_var 11) ql_nil))).p))).p qa_nil)))).p qa_nil)))).p (qa_cons (qp_var 3) (qa_cons (qp_var 4) (qa_cons (qp_var 8) (qa_cons (qp_var 9) qa_nil))))))))).p (qa_cons (qv_bl).p qa_nil)))))) (qss_one (qs_ret (QV.o qv_bl))) qss_nil)
  (qss_cons (qs_asgT (QE.v (qe_call h_law_lies (hr.mono (by decide)) (qa_cons (qp_var 0) (qa_cons (qp_var 1) (qa_cons (qp_var 2) (qa_cons ((QE.v (qe_call h_law_draw (hr.mono (by decide)) (qa_cons (qp_var 0) (qa_cons ((QE.v (qe_fdiv ((QE.v (qe_add (qp_var 8) (qv_int).p))).p (qv_int).p))).p qa_nil))))).p (qa_cons ((QE.v (qe_mul (qv_int).p ((QE.v (qe_call h_law_draw (hr.mono (by decide)) (qa_cons (qp_var 0) (qa_cons (qv_int).p qa_nil))))).p))).p qa_nil))))))) (qg_tup 2 rfl (qgs_cons (qg_name 14 sc_law_holds.nd) (qgs_cons (qg_name 15 sc_law_holds.nd) qgs_nil))))
  (qss_cons (qs_set 16 sc_law_holds.nd (qe_call h_law_estimates (hr.mono (by decide)) (qa_cons (qp_var 15) (qa_cons (qp_var 9) qa_nil))))
  (qss_cons (qs_set 17 sc_law_holds.nd (qe_call h_law_plus (hr.mono (by decide)) (qa_cons ((qv_ix (qp_var 14) (qp_var 4))).p (qa_cons ((qv_ix (qp_var 14) (qp_var 3))).p (qa_cons ((qv_neg qv_int)).p qa_nil)))))
  (qss_cons (qs_set 18 sc_law_holds.nd (qe_call h_way_vote (hr.mono (by decide)) (qa_cons (qp_var 15) (qa_cons (qp_var 9) qa_nil))))
  (qss_one (qs_if (QW.t (qw_or (qt_not (qt_call (QE.v (qe_call h_law_same (hr.mono (by decide)) (qa_cons ((QE.v (qe_call h_way_estimates (hr.mono (by decide)) (qa_cons (qp_var 15) (qa_cons (qp_var 9) qa_nil))))).p (qa_cons (qp_var 16) qa_nil)))))) (qw_or1 (qt_not (qt_call (QE.v (qe_call h_law_same (hr.mono (by decide)) (qa_cons (qp_var 18) (qa_cons ((qv_tup (ql_cons (qv_var 17) (ql_cons (QE.v (qe_len g.len (qa_cons ((QE.v (qe_lc (own := [("one", 19)]) rfl sc_law_holds.nd (qf_seq (qv_var 16)) (blkOk_by (by rfl)) (fun _ _ _ _ _ => (qg_name 19 sc_law_holds.nd)) (fun _ _ _ _ _ => (qts_one (qt_eq hr.units (qp_var 19) (qp_var 17)))) (fun _ _ _ _ _ => (qv_var 19))))).p qa_nil))) ql_nil)))).p qa_nil))))))))) (qss_one (qs_ret (QV.o qv_bl))) qss_nil))))))))) qss_nil)))))))))
  (qss_one (qs_ret (QV.o qv_bl))))))

theorem rR_eq : r_law_holds = rR0 := by
  unfold r_law_holds rR0 rRb rR1 rR2 rR3 rRif rR4 rR5 rR6 rR7
  rfl
theorem m_law_holds (os : List O) (Q : O → List O → Prop) (h : sp_law_holds os Q) : Ends r_law_holds n_law_holds os Q := by
  obtain ⟨a, b, ns, L, bl, m, e, c, t0, t1, rfl, hp, hn, hl, hL, hm, he, hme, hbl, hbz, hc, ht, q⟩ := h
  rw [show Ends r_law_holds = Ends rR0 from by rw [rR_eq]]
  have hc60 : c ≤ 60 := by
    have h1 := hc.2 _ (sep_one hme)
    have h2 := cut_le (netOf L bl) fun v => v == m
    have h3 : (netOf L bl).n = L.length := rfl
    omega
  have hL12 : ∀ l ∈ L, l.2.1 < 12 ∧ l.2.2 < 12 := fun l h => by have := hL l h; omega
  walk_at "wh"
  refine ⟨ns, L, bl, m, e, c, rfl, hl, hL12, by omega, hme, hc, fun ms hs1 hs2 hsep hcut => ?_⟩
  have hmn := hs2 ns.length hL hm
  walk_at "wh"
  refine ⟨_, rfl, ?_⟩
  walk_at "wh"
  refine ⟨ns, L, m, e, ms, rfl, hs1, hmn, by omega, hsep, ?_⟩
  walk_at "wh"
  refine ⟨_, rfl, ?_⟩
  walk_at "wh"
  refine ⟨.int (c : Nat), rfl, trivial, ?_⟩
  walk_at "wh"
  refine ⟨_, rfl, ?_⟩
  walk_at "wh"
  refine ⟨ns, L, bl, ms, _, rfl, .inr rfl, hl, ?_⟩
  rw [hcut]
  walk_at "wh"
  refine decI (fun h => ?_) (fun h => ?_)
  · have h : (!decide (((c : Nat) : Int) = ((c : Nat) : Int))) = true := h
    simp at h
  walk_at "go"
  · refine ⟨fun i env => ∃ (a b : Int) (t0' t1' : Nat) (o8 o9 o10 o11 o14 o15 o16 o17 o18 : Option O), env = [some (plD a b), some (.d (lvD ns L)), some (.d (natsD bl)), some (.d (.int (m : Nat))), some (.d (.int (e : Nat))), some (.d (.int (c : Nat))), some (.own [.int (t0' : Nat), .int (t1' : Nat)]), some (.d (.tuple [natsD ms, .int (c : Nat)])), o8, o9, o10, o11, none, none, o14, o15, o16, o17, o18, none] ∧ PlOk a b ∧ t1' = t1 + min i (c + 1) ∧ t0' = t0 + (i - (c + 1)), ⟨a, b, t0, t1, none, none, none, none, none, none, none, none, none, rfl, hp, by omega, by omega⟩, ?_, ?_⟩
    · rintro i x env hx ⟨a, b, t0', t1', o8, o9, o10, o11, o14, o15, o16, o17, o18, rfl, hp, h1, h2⟩
      obtain ⟨ex, hi⟩ := rngD_at hx
      subst ex
      rw [Int.zero_add]
      walk_at "wh"
      refine pb hp hn hl hL hm he hme hbl hbz hc hc60 (fun hlt => ?_) fun hle Ws hWl G => ?_
      · exact ⟨a, b, t0' + 1, t1', _, _, _, _, _, _, _, _, _, rfl, hp, by omega, by omega⟩
      · subst hWl
        have fin : ∀ a b o10 o11 o14 o15 o16 o17 o18, PlOk a b → ∃ (a2 b2 : Int) (t0'' t1'' : Nat) (p8 p9 p10 p11 p14 p15 p16 p17 p18 : Option O), envR a b ns L bl m e c t0' (t1' + 1) (.d (.tuple [natsD ms, .int (c : Nat)])) Ws.length Ws o10 o11 o14 o15 o16 o17 o18 = [some (plD a2 b2), some (.d (lvD ns L)), some (.d (natsD bl)), some (.d (.int (m : Nat))), some (.d (.int (e : Nat))), some (.d (.int (c : Nat))), some (.own [.int (t0'' : Nat), .int (t1'' : Nat)]), some (.d (.tuple [natsD ms, .int (c : Nat)])), p8, p9, p10, p11, none, none, p14, p15, p16, p17, p18, none] ∧ PlOk a2 b2 ∧ t1'' = t1 + min (Ws.length + 1) (c + 1) ∧ t0'' = t0 + (Ws.length + 1 - (c + 1)) := fun a b o10 o11 o14 o15 o16 o17 o18 hp' => ⟨a, b, t0', t1' + 1, _, _, _, _, _, _, _, _, _, rfl, hp', by omega, by omega⟩
        have hz : Ws.length ≤ 60 := by omega
        refine p1 hp hn hl hL hm he hme hbl hbz hz G (p2 hp hn hl hL hm he hme hbl hbz hz G fun o11 => p3 rfl hp hn hl hL hm he hme hbl hbz hz G (fun h0 => ?_) (fin _ _ _ _ _ _ _ _ _ hp))
        refine p4 hp hn hl hL hm he hme hbl hbz hz h0 G fun a b line hp' hline => ?_
        refine p5 hp' hn hl hL hm he hbl hbz hz h0 G hline fun a b Hs R Wr lies hp'' hHl h40 Li hWr h2l => ?_
        exact p6 (by omega) Li G hWr h2l hL12 (by omega) (by omega) (by omega) h40 fun x hr => p7 (by omega) hr (fin _ _ _ _ _ _ _ _ _ hp'')
    · rintro env ⟨a, b, t0', t1', o8, o9, o10, o11, o14, o15, o16, o17, o18, rfl, hp, h1, h2⟩
      rw [rngD_len, show (((c : Nat) : Int) + 2 - 0).toNat = c + 2 by omega] at h1 h2
      walk_at "wh"
      exact q a b t0' t1' hp (by omega) (by omega) (by omega)
  · omega
  · omega
theorem f_law_holds {P : Program} {w : World} {K : Fg} {mg : Str → Option Value} {base : Heap} {f : Addr} {fd : FuncData} (g : Gs K mg) (h_ways_between : Has P w K mg base "ways_between" ["levels", "blanks", "mark", "other", "many"] 4 sp_ways_between) (h_is_ways : Has P w K mg base "is_ways" ["levels", "blanks", "mark", "other", "many", "thing"] 5 sp_is_ways) (h_least_cut : Has P w K mg base "least_cut" ["levels", "blanks", "mark", "other"] 4 sp_least_cut) (h_way_estimates : Has P w K mg base "way_estimates" ["readings", "ways"] 4 sp_way_estimates) (h_way_vote : Has P w K mg base "way_vote" ["readings", "ways"] 5 sp_way_vote) (h_law_draw : Has P w K mg base "_law_draw" ["pool", "many"] 1 sp_law_draw) (h_law_same : Has P w K mg base "_law_same" ["told", "due"] 4 sp_law_same) (h_law_plus : Has P w K mg base "_law_plus" ["one", "other", "sign"] 2 sp_law_plus) (h_law_count : Has P w K mg base "_law_count" ["levels", "blanks", "marks"] 1 sp_law_count) (h_law_is_ways : Has P w K mg base "_law_is_ways" ["levels", "blanks", "mark", "other", "many", "thing"] 1 sp_law_is_ways) (h_law_is_cut : Has P w K mg base "_law_is_cut" ["levels", "mark", "other", "thing"] 1 sp_law_is_cut) (h_law_estimates : Has P w K mg base "_law_estimates" ["readings", "ways"] 3 sp_law_estimates) (h_law_lies : Has P w K mg base "_law_lies" ["pool", "levels", "blanks", "lies", "most"] 3 sp_law_lies) (F : Fun K "_law_holds" "_law_holds" s_law_holds f fd) : FnOk P w K mg base CX0 6 f fd ["pool", "levels", "blanks", "mark", "other", "least", "tally"] (SpOf K sp_law_holds) :=
  fn_ok F sc_law_holds [0, 6] (fun cdv A outer s H E hr => q_law_holds g h_ways_between h_is_ways h_least_cut h_way_estimates h_way_vote h_law_draw h_law_same h_law_plus h_law_count h_law_is_ways h_law_is_cut h_law_estimates h_law_lies cdv A outer s H E hr) (by walk_at "len") (by walk_at "keep") m_law_holds
theorem mono_law_holds : sp_law_holds.Mono := by walk_at "mono"

end K76
set_option Elab.async false
set_option linter.all false
set_option maxRecDepth 100000
set_option maxHeartbeats 1000000
set_option exponentiation.threshold 20000
set_option pp.deepTerms false
set_option pp.maxSteps 500
namespace K76
open PySem PySem.Spec PyProof.Rows L2 Pf
local macro_rules | `(tactic| walk_at "go") => `(tactic| (conv => whnf) <;> repeat ((first | refine atE rfl ?_ | refine andR ?_ ?_); (conv => whnf)))
local macro_rules | `(tactic| walk_at "wh") => `(tactic| conv => whnf)
local macro_rules | `(tactic| walk_at "len") => `(tactic| (intro os Q h; (repeat (obtain ⟨_, h⟩ := h)); subst_vars; rfl))
local macro_rules | `(tactic| walk_at "keep") => `(tactic| (intro os Q h; (repeat (obtain ⟨_, h⟩ := h)); subst_vars; simp [keepOk]))
local macro_rules | `(tactic| walk_at "mono") => `(tactic| (intro os k k' f; repeat (first | exact f _ _ | refine Exists.imp fun _ => ?_ | refine And.imp_right ?_ | refine forall_imp fun _ => ?_)))
/-! the law, its pieces -/
open Fl (Net)
@[irreducible] def rTe : RS := (rRet (rO (rAndV (rTV (rCmp bGt (rP (rD (rOp dIx (rN 3) (rP (rC (.int 0)))))) (rP (rC (.int 0))))) (rTV (rCmp bGt (rP (rD (rOp dIx (rN 3) (rP (rC (.int 1)))))) (rP (rC (.int 0))))))))
@[irreducible] def rW4 : RS := (rIfS (rNot (rTb (rD (rCall sp_law_holds (rACons (rN 1) (rACons (rN 5) (rACons (rP (rTup rNil)) (rACons (rP (rD (rOp dIx (rN 11) (rP (rC (.int 0)))))) (rACons (rP (rD (rOp dIx (rN 11) (rP (rC (.int 3)))))) (rACons (rP (rD (rCB fMinL (rACons (rN 10) rANil)))) (rACons (rN 3) rANil))))))))))) (rRet (rO (rC (.bool false)))) rNext)
@[irreducible] def rW3 (k : RS) : RS := (rSeq (rSet 14 (rCall sp_law_names (rACons (rN 1) (rACons (rP (rD (rOp dAdd (rP (rC (.int 4))) (rP (rD (rCB fLen (rACons (rN 12) rANil))))))) rANil))))
  (rSeq (rSet 5 (rO (rTup (rCons (rD (rCB fTuple (rACons (rP (rD (rSl (rN 14) rNoI (rSoI (rC (.int 4)))))) rANil))) (rCons (rD (rCB fTuple (rACons (rP (rD (rLc (rRng1 (rD (rCB fLen (rACons (rN 12) rANil)))) (rGn 13) rYes (rTup (rCons (rD (rOp dIx (rN 14) (rP (rD (rOp dAdd (rP (rC (.int 4))) (rN 13)))))) (rCons (rD (rOp dIx (rP (rD (rOp dIx (rN 12) (rN 13)))) (rP (rC (.int 0))))) (rCons (rD (rOp dIx (rP (rD (rOp dIx (rN 12) (rN 13)))) (rP (rC (.int 1))))) rNil)))) [13]))) rANil))) rNil)))))
  k))
@[irreducible] def rW2 (k : RS) : RS := (rSeq (rSet 12 (rLc (rFs (rD (rCall sp_law_order (rACons (rN 1) (rACons (rP (rD (rCB fLen (rACons (rN 12) rANil)))) rANil))))) (rGn 13) rYes (rD (rIf (rCmp (dEq false) (rP (rD (rCall sp_law_draw (rACons (rN 1) (rACons (rP (rC (.int 2))) rANil))))) (rP (rC (.int 0)))) (rO (rD (rOp dIx (rN 12) (rN 13)))) (rRevT (rP (rD (rOp dIx (rN 12) (rN 13))))))) [13]))
  k)
@[irreducible] def rW1 (k : RS) : RS := (rSeq (rSet 12 (rLst rNil))
  (rSeq (rFor (rRng1 (rC (.int 3))) (rGn 13) (rSet 12 (rOp dAdd (rN 12) (rP (rD (rRepL (rLst (rCons (rTup (rCons (rD (rOp dIx (rN 11) (rN 13))) (rCons (rD (rOp dIx (rN 11) (rP (rD (rOp dAdd (rN 13) (rP (rC (.int 1)))))))) rNil))) rNil)) (rD (rOp dIx (rN 10) (rN 13)))))))))
  k))
@[irreducible] def rW0 (k : RS) : RS := (rSeq (rSet 10 (rLst (rCons (rD (rOp dAdd (rP (rC (.int 1))) (rP (rD (rCall sp_law_draw (rACons (rN 1) (rACons (rP (rC (.int 9))) rANil))))))) (rCons (rD (rOp dAdd (rP (rC (.int 1))) (rP (rD (rCall sp_law_draw (rACons (rN 1) (rACons (rP (rC (.int 9))) rANil))))))) (rCons (rD (rOp dAdd (rP (rC (.int 1))) (rP (rD (rCall sp_law_draw (rACons (rN 1) (rACons (rP (rC (.int 6))) rANil))))))) rNil)))))
  (rSeq (rSet 11 (rCall sp_law_order (rACons (rN 1) (rACons (rP (rC (.int 4))) rANil))))
  k))
@[irreducible] def rTw (k0 k : RS) : RS := (rSeq (rIfS (rTb (rVar 2)) k0 rNext) k)
@[irreducible] def rTo : RS := (rIfS (rNot (rTb (rD (rCall sp_law_holds (rACons (rN 1) (rACons (rN 5) (rACons (rN 9) (rACons (rN 6) (rACons (rN 7) (rACons (rP (rD (rCall sp_law_least (rACons (rN 5) (rACons (rN 9) (rACons (rN 6) (rACons (rN 7) rANil))))))) (rACons (rN 3) rANil))))))))))) (rRet (rO (rC (.bool false)))) rNext)
@[irreducible] def rTn (k : RS) : RS := (rSeq (rSet 9 (rCall sp_law_blanks (rACons (rN 1) (rACons (rN 5) (rACons (rP (rC (.int 6))) rANil)))))
  (rSeq (rAsgT (rD (rCall sp_law_two (rACons (rN 1) (rACons (rN 5) rANil)))) (rGt 2 (rGcons (rGn 6) (rGcons (rGn 7) rGnil))))
  k))
@[irreducible] def rTm (k : RS) : RS := (rIfS (rCmp bGt (rP (rD (rCB fLen (rACons (rP (rD (rOp dIx (rN 5) (rP (rC (.int 0)))))) rANil)))) (rP (rC (.int 1)))) k rNext)
@[irreducible] def rTl (k : RS) : RS := (rSeq (rSet 5 (rCall sp_law_levels (rACons (rN 1) (rACons (rP (rD (rCall sp_law_draw (rACons (rN 1) (rACons (rP (rC (.int 6))) rANil))))) (rACons (rP (rD (rOp dAdd (rP (rC (.int 1))) (rP (rD (rCall sp_law_draw (rACons (rN 1) (rACons (rP (rC (.int 5))) rANil)))))))) (rACons (rP (rC (.int 14))) rANil))))))
  k)
@[irreducible] def rTf (k0 k : RS) : RS := (rSeq (rFor (rRng1 (rC (.int 4))) (rGn 8) k0) k)
@[irreducible] def rT2 (k : RS) : RS := (rSeq (rAsgT (rD (rCall sp_law_crossed (rACons (rN 1) rANil))) (rGt 3 (rGcons (rGn 5) (rGcons (rGn 6) (rGcons (rGn 7) rGnil)))))
  (rSeq (rIfS (rNot (rTb (rD (rCall sp_law_holds (rACons (rN 1) (rACons (rN 5) (rACons (rP (rTup rNil)) (rACons (rN 6) (rACons (rN 7) (rACons (rP (rC (.int 2))) (rACons (rN 3) rANil))))))))))) (rRet (rO (rC (.bool false)))) rNext)
  k))
@[irreducible] def rT1 (k : RS) : RS := (rSeq (rIfS (rOr (rNot (rTb (rD (rCall sp_law_holds (rACons (rN 1) (rACons (rN 4) (rACons (rP (rTup rNil)) (rACons (rP (rC (.int 0))) (rACons (rP (rC (.int 1))) (rACons (rP (rC (.int 3))) (rACons (rN 3) rANil))))))))))) (rNot (rTb (rD (rCall sp_law_holds (rACons (rN 1) (rACons (rN 4) (rACons (rP (rTup (rCons (rC (.int 1)) rNil))) (rACons (rP (rC (.int 2))) (rACons (rP (rC (.int 0))) (rACons (rP (rC (.int 1))) (rACons (rN 3) rANil)))))))))))) (rRet (rO (rC (.bool false)))) rNext)
  k)
def rT0 : RS := (rSeq (rSet 1 (rCall sp_law_pool (rACons (rN 0) rANil)))
  (rSeq (rSet 2 (rO (rTV (rCmp (dEq false) (rP (rD (rCall sp_law_draw (rACons (rN 1) (rACons (rP (rC (.int 7))) rANil))))) (rP (rC (.int 1)))))))
  (rSeq (rSet 3 (rLst (rCons (rC (.int 0)) (rCons (rC (.int 0)) rNil))))
  (rSeq (rSet 4 (rO (rTup (rCons (rTup (rCons (rC (.str "m")) (rCons (rC (.str "n")) (rCons (rC (.str "o")) rNil)))) (rCons (rTup (rCons (rTup (rCons (rC (.str "p")) (rCons (rC (.int 0)) (rCons (rC (.int 1)) rNil)))) (rCons (rTup (rCons (rC (.str "q")) (rCons (rC (.int 1)) (rCons (rC (.int 2)) rNil)))) (rCons (rTup (rCons (rC (.str "r")) (rCons (rC (.int 0)) (rCons (rC (.int 2)) rNil)))) (rCons (rTup (rCons (rC (.str "s")) (rCons (rC (.int 0)) (rCons (rC (.int 1)) rNil)))) rNil))))) rNil)))))
  (rT1 (rT2 (rTf (rTl (rTm (rTn rTo))) (rTw (rW0 (rW1 (rW2 (rW3 rW4)))) rTe))))))))
abbrev envT (sc : D) (a b : Int) (wi : D) (t0 t1 : Nat) (ri : O) (o5 o6 o7 o8 o9 o10 o11 o12 o13 o14 : Option O) : Pf.Env := [some (.d sc), some (plD a b), some (.d wi), some (.own [.int (t0 : Nat), .int (t1 : Nat)]), some ri, o5, o6, o7, o8, o9, o10, o11, o12, o13, o14]
end K76
set_option Elab.async false
set_option linter.all false
set_option maxRecDepth 100000
set_option maxHeartbeats 1000000
set_option exponentiation.threshold 20000
set_option pp.deepTerms false
set_option pp.maxSteps 500
namespace K76
open PySem PySem.Spec PyProof.Rows L2 Pf
local macro_rules | `(tactic| walk_at "go") => `(tactic| (conv => whnf) <;> repeat ((first | refine atE rfl ?_ | refine andR ?_ ?_); (conv => whnf)))
local macro_rules | `(tactic| walk_at "wh") => `(tactic| conv => whnf)
local macro_rules | `(tactic| walk_at "len") => `(tactic| (intro os Q h; (repeat (obtain ⟨_, h⟩ := h)); subst_vars; rfl))
local macro_rules | `(tactic| walk_at "keep") => `(tactic| (intro os Q h; (repeat (obtain ⟨_, h⟩ := h)); subst_vars; simp [keepOk]))
local macro_rules | `(tactic| walk_at "mono") => `(tactic| (intro os k k' f; repeat (first | exact f _ _ | refine Exists.imp fun _ => ?_ | refine And.imp_right ?_ | refine forall_imp fun _ => ?_)))
open Fl (Net)
section
variable {E : Pf.End} {k k0 : RS} {sc wi : D} {a b : Int} {t0 t1 : Nat} {ri : O} {o5 o6 o7 o8 o9 o10 o11 o12 o13 o14 : Option O}
theorem ptl (hp : PlOk a b) (q : ∀ a b (ns : List Str) (L : List Ln), PlOk a b → 2 ≤ ns.length → ns.length ≤ 8 → L.length ≤ 14 → (∀ l ∈ L, l.2.1 < ns.length ∧ l.2.2 < ns.length) → k E (envT sc a b wi t0 t1 ri (some (.d (lvD ns L))) o6 o7 o8 o9 o10 o11 o12 o13 o14)) :
    rTl k E (envT sc a b wi t0 t1 ri o5 o6 o7 o8 o9 o10 o11 o12 o13 o14) := by
  unfold rTl
  walk_at "wh"
  refine ⟨a, b, 6, rfl, hp, by decide, by decide, fun x a1 b1 hx hp1 => ?_⟩
  walk_at "wh"
  refine ⟨a1, b1, 5, rfl, hp1, by decide, by decide, fun y a2 b2 hy hp2 => ?_⟩
  walk_at "wh"
  refine ⟨a2, b2, x, 1 + y, 14, ?_, hp2, hx, by omega, by omega, by decide, fun ns L a3 b3 h2 h8 hl hL hp3 => ?_⟩
  · rw [show ((1 + y : Nat) : Int) = 1 + ((y : Nat) : Int) by omega]
    rfl
  walk_at "wh"
  exact q _ _ _ _ hp3 h2 h8 hl hL
theorem ptm {ns : List Str} {L : List Ln} (h2 : 2 ≤ ns.length) (q : k E (envT sc a b wi t0 t1 ri (some (.d (lvD ns L))) o6 o7 o8 o9 o10 o11 o12 o13 o14)) :
    rTm k E (envT sc a b wi t0 t1 ri (some (.d (lvD ns L))) o6 o7 o8 o9 o10 o11 o12 o13 o14) := by
  unfold rTm
  walk_at "wh"
  refine ⟨_, rfl, ?_⟩
  walk_at "wh"
  refine decI (fun h => ?_) (fun h => ?_)
  rotate_left
  · have h : ¬ decide ((1 : Int) < ((ns.map PyData.str).length : Nat)) = true := h
    rw [List.length_map, decide_eq_true_iff] at h
    omega
  walk_at "wh"
  exact q
theorem ptn {ns : List Str} {L : List Ln} (hp : PlOk a b) (h2 : 2 ≤ ns.length) (h8 : ns.length ≤ 8) (hl : L.length ≤ 14) (q : ∀ a b bl m e, PlOk a b → bl.length ≤ L.length → (∀ x ∈ bl, x < L.length) → m < ns.length → e < ns.length → m ≠ e → k E (envT sc a b wi t0 t1 ri (some (.d (lvD ns L))) (some (.d (.int (m : Nat)))) (some (.d (.int (e : Nat)))) o8 (some (.d (natsD bl))) o10 o11 o12 o13 o14)) :
    rTn k E (envT sc a b wi t0 t1 ri (some (.d (lvD ns L))) o6 o7 o8 o9 o10 o11 o12 o13 o14) := by
  unfold rTn
  walk_at "wh"
  refine ⟨a, b, ns, L, 6, rfl, hp, by omega, by decide, by decide, fun bl a4 b4 hbl hbx hp4 => ?_⟩
  walk_at "wh"
  refine ⟨a4, b4, ns, L, rfl, hp4, h2, by omega, fun m e a5 b5 hm he hme hp5 => ?_⟩
  walk_at "wh"
  refine ⟨rfl, ?_⟩
  walk_at "wh"
  exact q _ _ _ _ _ hp5 hbl hbx hm he hme
theorem pto {ns : List Str} {L : List Ln} {bl : List Nat} {m e : Nat} (hp : PlOk a b) (hB : t0 + t1 ≤ 90000) (h2 : 2 ≤ ns.length) (h8 : ns.length ≤ 8) (hl : L.length ≤ 14) (hL : ∀ l ∈ L, l.2.1 < ns.length ∧ l.2.2 < ns.length) (hbl : bl.length ≤ L.length) (hbx : ∀ x ∈ bl, x < L.length) (hm : m < ns.length) (he : e < ns.length) (hme : m ≠ e)
    (q : ∀ a b t0' t1', PlOk a b → t0 < t0' → t1 < t1' → t0' + t1' ≤ t0 + t1 + 62 → E.nx (envT sc a b wi t0' t1' ri (some (.d (lvD ns L))) (some (.d (.int (m : Nat)))) (some (.d (.int (e : Nat)))) o8 (some (.d (natsD bl))) o10 o11 o12 o13 o14)) :
    rTo E (envT sc a b wi t0 t1 ri (some (.d (lvD ns L))) (some (.d (.int (m : Nat)))) (some (.d (.int (e : Nat)))) o8 (some (.d (natsD bl))) o10 o11 o12 o13 o14) := by
  unfold rTo
  walk_at "wh"
  refine ⟨ns, L, bl, m, e, rfl, by omega, h8, hL, hm, he, hme, fun c hc => ?_⟩
  walk_at "wh"
  refine ⟨a, b, ns, L, bl, m, e, c, t0, t1, rfl, hp, by omega, by omega, hL, hm, he, hme, hbx, by omega, hc, by omega, fun a6 b6 t0' t1' hp6 g0 g1 g2 => ?_⟩
  walk_at "wh"
  exact q _ _ _ _ hp6 g0 g1 g2
end
end K76
set_option Elab.async false
set_option linter.all false
set_option maxRecDepth 100000
set_option maxHeartbeats 1000000
set_option exponentiation.threshold 20000
set_option pp.deepTerms false
set_option pp.maxSteps 500
namespace K76
open PySem PySem.Spec PyProof.Rows L2 Pf
local macro_rules | `(tactic| walk_at "go") => `(tactic| (conv => whnf) <;> repeat ((first | refine atE rfl ?_ | refine andR ?_ ?_); (conv => whnf)))
local macro_rules | `(tactic| walk_at "wh") => `(tactic| conv => whnf)
local macro_rules | `(tactic| walk_at "len") => `(tactic| (intro os Q h; (repeat (obtain ⟨_, h⟩ := h)); subst_vars; rfl))
local macro_rules | `(tactic| walk_at "keep") => `(tactic| (intro os Q h; (repeat (obtain ⟨_, h⟩ := h)); subst_vars; simp [keepOk]))
local macro_rules | `(tactic| walk_at "mono") => `(tactic| (intro os k k' f; repeat (first | exact f _ _ | refine Exists.imp fun _ => ?_ | refine And.imp_right ?_ | refine forall_imp fun _ => ?_)))
open Fl (Net)
section
variable {E : Pf.End} {k k0 : RS} {sc wi : D} {a b : Int} {t0 t1 : Nat} {ri : O} {o5 o6 o7 o8 o9 o10 o11 o12 o13 o14 : Option O}
theorem pte (h0 : 0 < t0) (h1 : 0 < t1) (q : E.rt (.d (.bool true)) (envT sc a b wi t0 t1 ri o5 o6 o7 o8 o9 o10 o11 o12 o13 o14)) : rTe E (envT sc a b wi t0 t1 ri o5 o6 o7 o8 o9 o10 o11 o12 o13 o14) := by
  unfold rTe
  have e0 : decide ((0 : Int) < ((t0 : Nat) : Int)) = true := decide_eq_true (by omega)
  have e1 : decide ((0 : Int) < ((t1 : Nat) : Int)) = true := decide_eq_true (by omega)
  walk_at "wh"
  refine ⟨_, rfl, ?_⟩
  walk_at "wh"
  refine decI (fun h => ?_) (fun h => ?_)
  rotate_left
  · have h : ¬ decide ((0 : Int) < ((t0 : Nat) : Int)) = true := h
    exact absurd e0 h
  walk_at "wh"
  refine ⟨_, rfl, ?_⟩
  walk_at "wh"
  show E.rt (.d (.bool (decide ((0 : Int) < ((t1 : Nat) : Int))))) _
  rw [e1]
  exact q
end
end K76
set_option Elab.async false
set_option linter.all false
set_option maxRecDepth 100000
set_option maxHeartbeats 1000000
set_option exponentiation.threshold 20000
set_option pp.deepTerms false
set_option pp.maxSteps 500
namespace K76
open PySem PySem.Spec PyProof.Rows L2 Pf
local macro_rules | `(tactic| walk_at "go") => `(tactic| (conv => whnf) <;> repeat ((first | refine atE rfl ?_ | refine andR ?_ ?_); (conv => whnf)))
local macro_rules | `(tactic| walk_at "wh") => `(tactic| conv => whnf)
local macro_rules | `(tactic| walk_at "len") => `(tactic| (intro os Q h; (repeat (obtain ⟨_, h⟩ := h)); subst_vars; rfl))
local macro_rules | `(tactic| walk_at "keep") => `(tactic| (intro os Q h; (repeat (obtain ⟨_, h⟩ := h)); subst_vars; simp [keepOk]))
local macro_rules | `(tactic| walk_at "mono") => `(tactic| (intro os k k' f; repeat (first | exact f _ _ | refine Exists.imp fun _ => ?_ | refine And.imp_right ?_ | refine forall_imp fun _ => ?_)))
open Fl (Net)
section
variable {E : Pf.End} {k k0 : RS} {sc wi : D} {a b : Int} {t0 t1 : Nat} {ri : O} {o5 o6 o7 o8 o9 o10 o11 o12 o13 o14 : Option O}
theorem pw4 {m0 m1 m2 m3 c0 c1 c2 : Nat} {ord : List Nat} {ns : List Str} {L : List Ln} (hp : PlOk a b) (hB : t0 + t1 ≤ 90000) (hns : ns.length = 4) (hl : L.length ≤ 60) (hL : ∀ l ∈ L, l.2.1 < 4 ∧ l.2.2 < 4) (h0 : m0 < 4) (h3 : m3 < 4)
    (hord : ord.Perm (List.range (bunchB m0 m1 m2 m3 c0 c1 c2).length)) (hT : TurnL (bunchB m0 m1 m2 m3 c0 c1 c2) ord L) (h01 : m0 ≠ m1) (h02 : m0 ≠ m2) (h03 : m0 ≠ m3) (h12 : m1 ≠ m2) (h13 : m1 ≠ m3) (h23 : m2 ≠ m3)
    (q : ∀ a b t0' t1', PlOk a b → t0 < t0' → t1 < t1' → E.nx (envT sc a b wi t0' t1' ri (some (.d (lvD ns L))) o6 o7 o8 o9 (some (.own [.int (c0 : Nat), .int (c1 : Nat), .int (c2 : Nat)])) (some (.own (natD [m0, m1, m2, m3]))) o12 o13 o14)) :
    rW4 E (envT sc a b wi t0 t1 ri (some (.d (lvD ns L))) o6 o7 o8 o9 (some (.own [.int (c0 : Nat), .int (c1 : Nat), .int (c2 : Nat)])) (some (.own (natD [m0, m1, m2, m3]))) o12 o13 o14) := by
  unfold rW4
  walk_at "go"
  · intro v hv hle
    have hv : v ∈ [((c0 : Nat) : Int), ((c1 : Nat) : Int), ((c2 : Nat) : Int)] := hv
    have hle : ∀ y ∈ [((c0 : Nat) : Int), ((c1 : Nat) : Int), ((c2 : Nat) : Int)], v ≤ y := hle
    obtain ⟨c, rfl, hc⟩ : ∃ c : Nat, v = (c : Nat) ∧ (c = c0 ∨ c = c1 ∨ c = c2) := by
      rcases List.mem_cons.mp hv with z | hv
      · exact ⟨c0, z, .inl rfl⟩
      rcases List.mem_cons.mp hv with z | hv
      · exact ⟨c1, z, .inr (.inl rfl)⟩
      · exact ⟨c2, List.mem_singleton.mp hv, .inr (.inr rfl)⟩
    have l0 := hle _ (List.mem_cons_self)
    have l1 := hle _ (List.mem_cons_of_mem _ List.mem_cons_self)
    have l2 := hle _ (List.mem_cons_of_mem _ (List.mem_cons_of_mem _ List.mem_cons_self))
    have mn := bunch_min (c := c) hord hT h01 h02 h03 h12 h13 h23 hc (by omega) (by omega) (by omega)
    walk_at "wh"
    refine ⟨a, b, ns, L, [], m0, m3, c, t0, t1, rfl, hp, by omega, hl, by rw [hns]; exact hL, by omega, by omega, h03, fun x h => (nomatch h), Nat.zero_le _, mn, by omega, fun a6 b6 t0' t1' hp6 g0 g1 g2 => ?_⟩
    walk_at "wh"
    exact q _ _ _ _ hp6 g0 g1
  · show 0 < 3
    decide
  · decide
end
end K76
set_option Elab.async false
set_option linter.all false
set_option maxRecDepth 100000
set_option maxHeartbeats 1000000
set_option exponentiation.threshold 20000
set_option pp.deepTerms false
set_option pp.maxSteps 500
namespace K76
open PySem PySem.Spec PyProof.Rows L2 Pf
local macro_rules | `(tactic| walk_at "go") => `(tactic| (conv => whnf) <;> repeat ((first | refine atE rfl ?_ | refine andR ?_ ?_); (conv => whnf)))
local macro_rules | `(tactic| walk_at "wh") => `(tactic| conv => whnf)
local macro_rules | `(tactic| walk_at "len") => `(tactic| (intro os Q h; (repeat (obtain ⟨_, h⟩ := h)); subst_vars; rfl))
local macro_rules | `(tactic| walk_at "keep") => `(tactic| (intro os Q h; (repeat (obtain ⟨_, h⟩ := h)); subst_vars; simp [keepOk]))
local macro_rules | `(tactic| walk_at "mono") => `(tactic| (intro os k k' f; repeat (first | exact f _ _ | refine Exists.imp fun _ => ?_ | refine And.imp_right ?_ | refine forall_imp fun _ => ?_)))
open Fl (Net)
section
variable {E : Pf.End} {k k0 : RS} {sc wi : D} {a b : Int} {t0 t1 : Nat} {ri : O} {o5 o6 o7 o8 o9 o10 o11 o12 o13 o14 : Option O}
theorem pw3 {m0 m1 m2 m3 c0 c1 c2 : Nat} {ord : List Nat} {Ps : List (Nat × Nat)} (hp : PlOk a b) (hB : t0 + t1 ≤ 90000) (hl : Ps.length ≤ 50) (hP : ∀ p ∈ Ps, p.1 < 4 ∧ p.2 < 4) (h0 : m0 < 4) (h3 : m3 < 4)
    (hord : ord.Perm (List.range (bunchB m0 m1 m2 m3 c0 c1 c2).length)) (hPl : Ps.length = ord.length) (hT : ∀ (i k : Nat) (p : Nat × Nat), ord[i]? = some k → Ps[i]? = some p → ∃ r, (bunchB m0 m1 m2 m3 c0 c1 c2)[k]? = some r ∧ ((p.1 = r.1 ∧ p.2 = r.2) ∨ (p.1 = r.2 ∧ p.2 = r.1))) (h01 : m0 ≠ m1) (h02 : m0 ≠ m2) (h03 : m0 ≠ m3) (h12 : m1 ≠ m2) (h13 : m1 ≠ m3) (h23 : m2 ≠ m3)
    (q : ∀ a b (ns : List Str) (L : List Ln) o13 o14, PlOk a b → ns.length = 4 → L.length ≤ 60 → (∀ l ∈ L, l.2.1 < 4 ∧ l.2.2 < 4) → TurnL (bunchB m0 m1 m2 m3 c0 c1 c2) ord L → k E (envT sc a b wi t0 t1 ri (some (.d (lvD ns L))) o6 o7 o8 o9 (some (.own [.int (c0 : Nat), .int (c1 : Nat), .int (c2 : Nat)])) (some (.own (natD [m0, m1, m2, m3]))) (some (.own (Ps.map prD))) o13 o14)) :
    rW3 k E (envT sc a b wi t0 t1 ri o5 o6 o7 o8 o9 (some (.own [.int (c0 : Nat), .int (c1 : Nat), .int (c2 : Nat)])) (some (.own (natD [m0, m1, m2, m3]))) (some (.own (Ps.map prD))) o13 o14) := by
  unfold rW3
  walk_at "wh"
  refine ⟨a, b, 4 + Ps.length, ?_, hp, by omega, fun zs a2 b2 hz hp2 => ?_⟩
  · rw [show ((4 + Ps.length : Nat) : Int) = 4 + (((Ps.map prD).length : Nat) : Int) by rw [List.length_map]; omega]
  walk_at "wh"
  have ec2 : cut (zs.map PyData.str) none (some (4 : Int)) = (zs.take 4).map PyData.str := by
    rw [show (4 : Int) = ((4 : Nat) : Int) from rfl, cut_to2, List.map_take]
  rw [ec2]
  walk_at "go"
  refine lc_mapE (ys := ((List.range Ps.length).map fun k => ((zs.getD (4 + k) "", (Ps.getD k (0, 0)).1, (Ps.getD k (0, 0)).2) : Ln)).map lineD) (fun env => ∃ o13, env = envT sc a2 b2 wi t0 t1 ri o5 o6 o7 o8 o9 (some (.own [.int (c0 : Nat), .int (c1 : Nat), .int (c2 : Nat)])) (some (.own (natD [m0, m1, m2, m3]))) (some (.own (Ps.map prD))) o13 (some (.own (zs.map PyData.str)))) ⟨_, rfl⟩ (by rw [rngD_len]; simp) (by rw [rngD_len]; simp; omega) (fun i x y k e' he' hx hy hk => ?_) ?_
  · obtain ⟨o13, rfl⟩ := he'
    obtain ⟨ex, hi⟩ := rngD_at hx
    rw [List.length_map] at hi
    have hi : i < Ps.length := by omega
    subst ex
    rw [Int.zero_add]
    rw [List.getElem?_map, List.getElem?_map, List.getElem?_range hi] at hy
    cases hy
    obtain ⟨z, hz1, _⟩ := getAt (show 4 + i < zs.length by omega)
    obtain ⟨p, hp1, _⟩ := getAt hi
    have ez : zs.getD (4 + i) "" = z := by rw [List.getD_eq_getElem?_getD, hz1]; rfl
    have ep : Ps.getD i (0, 0) = p := by rw [List.getD_eq_getElem?_getD, hp1]; rfl
    have hzi : atI (zs.map PyData.str) ((4 : Int) + ((i : Nat) : Int)) = some (.str z) := by
      rw [show (4 : Int) + ((i : Nat) : Int) = ((4 + i : Nat) : Int) by omega]
      exact atI_map hz1
    dsimp only at hk
    rw [ez, ep] at hk
    walk_at "wh"
    refine ⟨_, hzi, ?_⟩
    walk_at "wh"
    refine ⟨_, atI_map hp1, ?_⟩
    walk_at "wh"
    refine ⟨_, rfl, ?_⟩
    walk_at "wh"
    refine ⟨_, atI_map hp1, ?_⟩
    walk_at "wh"
    refine ⟨_, rfl, ?_⟩
    walk_at "wh"
    refine ⟨(by decide : 3 ≤ sizeLine), ?_⟩
    walk_at "wh"
    exact hk _ ⟨_, rfl⟩
  rintro env ⟨o13, rfl⟩
  walk_at "wh"
  refine ⟨(by decide : 2 ≤ sizeLine), ?_⟩
  walk_at "wh"
  refine q a2 b2 (zs.take 4) ((List.range Ps.length).map fun k => (zs.getD (4 + k) "", (Ps.getD k (0, 0)).1, (Ps.getD k (0, 0)).2)) _ _ hp2 (by rw [List.length_take]; omega) (by rw [List.length_map, List.length_range]; omega) ?_ ⟨by rw [List.length_map, List.length_range, hPl], ?_⟩
  · intro l hl'
    obtain ⟨k, hk, rfl⟩ := List.mem_map.mp hl'
    have hk := List.mem_range.mp hk
    obtain ⟨p, hp1, hpm⟩ := getAt hk
    have ep : Ps.getD k (0, 0) = p := by rw [List.getD_eq_getElem?_getD, hp1]; rfl
    show (Ps.getD k (0, 0)).1 < 4 ∧ (Ps.getD k (0, 0)).2 < 4
    rw [ep]
    exact hP p hpm
  · intro i k l hk hl'
    rw [List.getElem?_map] at hl'
    obtain ⟨i', hi', rfl⟩ := Option.map_eq_some_iff.mp hl'
    have hil := (List.getElem?_eq_some_iff.mp hi').1
    rw [List.length_range] at hil
    rw [List.getElem?_range hil] at hi'
    cases hi'
    obtain ⟨p, hp1, hpm⟩ := getAt hil
    have ep : Ps.getD i (0, 0) = p := by rw [List.getD_eq_getElem?_getD, hp1]; rfl
    show ∃ r : Nat × Nat, _ ∧ (((Ps.getD i (0, 0)).1 = r.1 ∧ (Ps.getD i (0, 0)).2 = r.2) ∨ ((Ps.getD i (0, 0)).1 = r.2 ∧ (Ps.getD i (0, 0)).2 = r.1))
    rw [ep]
    exact hT i k p hk hp1
  all_goals
    rw [List.length_map]
    omega
end
end K76
set_option Elab.async false
set_option linter.all false
set_option maxRecDepth 100000
set_option maxHeartbeats 1000000
set_option exponentiation.threshold 20000
set_option pp.deepTerms false
set_option pp.maxSteps 500
namespace K76
open PySem PySem.Spec PyProof.Rows L2 Pf
local macro_rules | `(tactic| walk_at "go") => `(tactic| (conv => whnf) <;> repeat ((first | refine atE rfl ?_ | refine andR ?_ ?_); (conv => whnf)))
local macro_rules | `(tactic| walk_at "wh") => `(tactic| conv => whnf)
local macro_rules | `(tactic| walk_at "len") => `(tactic| (intro os Q h; (repeat (obtain ⟨_, h⟩ := h)); subst_vars; rfl))
local macro_rules | `(tactic| walk_at "keep") => `(tactic| (intro os Q h; (repeat (obtain ⟨_, h⟩ := h)); subst_vars; simp [keepOk]))
local macro_rules | `(tactic| walk_at "mono") => `(tactic| (intro os k k' f; repeat (first | exact f _ _ | refine Exists.imp fun _ => ?_ | refine And.imp_right ?_ | refine forall_imp fun _ => ?_)))
open Fl (Net)
section
variable {E : Pf.End} {k k0 : RS} {sc wi : D} {a b : Int} {t0 t1 : Nat} {ri : O} {o5 o6 o7 o8 o9 o10 o11 o12 o13 o14 : Option O}
theorem pw2 {m0 m1 m2 m3 c0 c1 c2 : Nat} (hp : PlOk a b) (hB : t0 + t1 ≤ 90000) (hc0 : c0 ≤ 10) (hc1 : c1 ≤ 10) (hc2 : c2 ≤ 10) (h0 : m0 < 4) (h1 : m1 < 4) (h2 : m2 < 4) (h3 : m3 < 4) (h01 : m0 ≠ m1) (h02 : m0 ≠ m2) (h03 : m0 ≠ m3) (h12 : m1 ≠ m2) (h13 : m1 ≠ m3) (h23 : m2 ≠ m3)
    (q : ∀ a b (ord : List Nat) (Ps : List (Nat × Nat)) o13, PlOk a b → Ps.length ≤ 50 → (∀ p ∈ Ps, p.1 < 4 ∧ p.2 < 4) → ord.Perm (List.range (bunchB m0 m1 m2 m3 c0 c1 c2).length) → Ps.length = ord.length → (∀ (i k : Nat) (p : Nat × Nat), ord[i]? = some k → Ps[i]? = some p → ∃ r, (bunchB m0 m1 m2 m3 c0 c1 c2)[k]? = some r ∧ ((p.1 = r.1 ∧ p.2 = r.2) ∨ (p.1 = r.2 ∧ p.2 = r.1))) → k E (envT sc a b wi t0 t1 ri o5 o6 o7 o8 o9 (some (.own [.int (c0 : Nat), .int (c1 : Nat), .int (c2 : Nat)])) (some (.own (natD [m0, m1, m2, m3]))) (some (.own (Ps.map prD))) o13 o14)) :
    rW2 k E (envT sc a b wi t0 t1 ri o5 o6 o7 o8 o9 (some (.own [.int (c0 : Nat), .int (c1 : Nat), .int (c2 : Nat)])) (some (.own (natD [m0, m1, m2, m3]))) (some (.own ((bunchB m0 m1 m2 m3 c0 c1 c2).map prD))) o13 o14) := by
  have hBl : (bunchB m0 m1 m2 m3 c0 c1 c2).length ≤ 30 := by
    unfold bunchB
    rw [List.length_append, List.length_append, List.length_replicate, List.length_replicate, List.length_replicate]
    omega
  have hB4 : ∀ p ∈ bunchB m0 m1 m2 m3 c0 c1 c2, p.1 < 4 ∧ p.2 < 4 := fun p hp => by
    unfold bunchB at hp
    rcases List.mem_append.mp hp with hp | hp
    · rcases List.mem_append.mp hp with hp | hp
      · rw [(List.mem_replicate.mp hp).2]; exact ⟨h0, h1⟩
      · rw [(List.mem_replicate.mp hp).2]; exact ⟨h1, h2⟩
    · rw [(List.mem_replicate.mp hp).2]; exact ⟨h2, h3⟩
  generalize eB : bunchB m0 m1 m2 m3 c0 c1 c2 = B at hBl hB4
  unfold rW2
  walk_at "wh"
  refine ⟨a, b, B.length, by rw [List.length_map], hp, by omega, fun ord a2 b2 hord hp2 => ?_⟩
  have olen := hord.length_eq
  rw [List.length_range] at olen
  have olt : ∀ m ∈ ord, m < B.length := fun m hm => List.mem_range.mp (hord.mem_iff.mp hm)
  walk_at "wh"
  refine ⟨fun i acc env => ∃ (a b : Int) (Ps : List (Nat × Nat)) (o13 : Option O), env = envT sc a b wi t0 t1 ri o5 o6 o7 o8 o9 (some (.own [.int (c0 : Nat), .int (c1 : Nat), .int (c2 : Nat)])) (some (.own (natD [m0, m1, m2, m3]))) (some (.own (B.map prD))) o13 o14 ∧ PlOk a b ∧ acc = Ps.map prD ∧ Ps.length = i ∧ (∀ p ∈ Ps, p.1 < 4 ∧ p.2 < 4) ∧ ∀ (j k : Nat) (p : Nat × Nat), ord[j]? = some k → Ps[j]? = some p → ∃ r, B[k]? = some r ∧ ((p.1 = r.1 ∧ p.2 = r.2) ∨ (p.1 = r.2 ∧ p.2 = r.1)), ⟨a2, b2, [], _, rfl, hp2, rfl, rfl, fun p h => (nomatch h), fun j k p _ h => by simp at h⟩, ?_, ?_⟩
  · rintro i x acc env hx ⟨a3, b3, Ps, o13, rfl, hp3, rfl, hPl, hP4, hPs⟩
    obtain ⟨k, hk, rfl⟩ := get_map hx
    have hi := (List.getElem?_eq_some_iff.mp hk).1
    obtain ⟨r, hr, hrm⟩ := getAt (olt k (List.mem_of_getElem? hk))
    have r4 := hB4 r hrm
    have hsz : (Ps.map prD).length < sizeLine := by rw [List.length_map, sizeLine_eq]; omega
    have fin : ∀ (p : Nat × Nat) (a' b' : Int) (o13 : Option O), PlOk a' b' → ((p.1 = r.1 ∧ p.2 = r.2) ∨ (p.1 = r.2 ∧ p.2 = r.1)) → ∃ (a b : Int) (Ps' : List (Nat × Nat)) (p13 : Option O), envT sc a' b' wi t0 t1 ri o5 o6 o7 o8 o9 (some (.own [.int (c0 : Nat), .int (c1 : Nat), .int (c2 : Nat)])) (some (.own (natD [m0, m1, m2, m3]))) (some (.own (B.map prD))) o13 o14 = envT sc a b wi t0 t1 ri o5 o6 o7 o8 o9 (some (.own [.int (c0 : Nat), .int (c1 : Nat), .int (c2 : Nat)])) (some (.own (natD [m0, m1, m2, m3]))) (some (.own (B.map prD))) p13 o14 ∧ PlOk a b ∧ Ps.map prD ++ [prD p] = Ps'.map prD ∧ Ps'.length = i + 1 ∧ (∀ p ∈ Ps', p.1 < 4 ∧ p.2 < 4) ∧ ∀ (j k : Nat) (p : Nat × Nat), ord[j]? = some k → Ps'[j]? = some p → ∃ r, B[k]? = some r ∧ ((p.1 = r.1 ∧ p.2 = r.2) ∨ (p.1 = r.2 ∧ p.2 = r.1)) := by
      intro p a' b' o13 hp' hor
      refine ⟨a', b', Ps ++ [p], _, rfl, hp', by rw [List.map_append]; rfl, by rw [List.length_append, hPl]; rfl, fun p' h' => ?_, fun j k' p' hj hp'' => ?_⟩
      · rcases List.mem_append.mp h' with h' | h'
        · exact hP4 p' h'
        · rw [List.mem_singleton.mp h']
          rcases hor with ⟨z1, z2⟩ | ⟨z1, z2⟩ <;> rw [z1, z2]
          · exact r4
          · exact ⟨r4.2, r4.1⟩
      · by_cases hji : j < i
        · rw [List.getElem?_append_left (by omega)] at hp''
          exact hPs j k' p' hj hp''
        · have hjl := (List.getElem?_eq_some_iff.mp hp'').1
          rw [List.length_append, List.length_singleton] at hjl
          have : j = i := by omega
          subst this
          rw [List.getElem?_append_right (by omega), show j - Ps.length = 0 by omega] at hp''
          cases hp''
          rw [hk] at hj
          cases hj
          exact ⟨r, hr, hor⟩
    walk_at "wh"
    refine ⟨a3, b3, 2, rfl, hp3, by decide, by decide, fun y a4 b4 hy hp4 => ?_⟩
    walk_at "wh"
    refine decI (fun h => ?_) (fun h => ?_)
    · walk_at "wh"
      refine ⟨_, atI_map hr, ?_⟩
      walk_at "wh"
      exact ⟨hsz, fin r a4 b4 _ hp4 (.inl ⟨rfl, rfl⟩)⟩
    · walk_at "wh"
      refine ⟨_, atI_map hr, ?_⟩
      walk_at "wh"
      exact ⟨hsz, fin (r.2, r.1) a4 b4 _ hp4 (.inr ⟨rfl, rfl⟩)⟩
  · rintro acc env ⟨a3, b3, Ps, o13, rfl, hp3, rfl, hPl, hP4, hPs⟩
    rw [natD_len] at hPl
    walk_at "wh"
    subst eB
    exact q a3 b3 ord Ps _ hp3 (by omega) hP4 hord hPl hPs
end
end K76
set_option Elab.async false
set_option linter.all false
set_option maxRecDepth 100000
set_option maxHeartbeats 1000000
set_option exponentiation.threshold 20000
set_option pp.deepTerms false
set_option pp.maxSteps 500
namespace K76
open PySem PySem.Spec PyProof.Rows L2 Pf
local macro_rules | `(tactic| walk_at "go") => `(tactic| (conv => whnf) <;> repeat ((first | refine atE rfl ?_ | refine andR ?_ ?_); (conv => whnf)))
local macro_rules | `(tactic| walk_at "wh") => `(tactic| conv => whnf)
local macro_rules | `(tactic| walk_at "len") => `(tactic| (intro os Q h; (repeat (obtain ⟨_, h⟩ := h)); subst_vars; rfl))
local macro_rules | `(tactic| walk_at "keep") => `(tactic| (intro os Q h; (repeat (obtain ⟨_, h⟩ := h)); subst_vars; simp [keepOk]))
local macro_rules | `(tactic| walk_at "mono") => `(tactic| (intro os k k' f; repeat (first | exact f _ _ | refine Exists.imp fun _ => ?_ | refine And.imp_right ?_ | refine forall_imp fun _ => ?_)))
open Fl (Net)
section
variable {E : Pf.End} {k k0 : RS} {sc wi : D} {a b : Int} {t0 t1 : Nat} {ri : O} {o5 o6 o7 o8 o9 o10 o11 o12 o13 o14 : Option O}
def blkB (m0 m1 m2 m3 c0 c1 c2 : Nat) : Nat → List (Nat × Nat)
  | 0 => []
  | 1 => List.replicate c0 (m0, m1)
  | 2 => List.replicate c0 (m0, m1) ++ List.replicate c1 (m1, m2)
  | _ => bunchB m0 m1 m2 m3 c0 c1 c2
theorem rep_pr (n : Nat) (p : Nat × Nat) : (List.replicate n [prD p]).flatten = (List.replicate n p).map prD := by
  induction n with
  | zero => rfl
  | succ n ih => rw [List.replicate_succ, List.flatten_cons, ih, List.replicate_succ]; rfl
theorem pw1 {m0 m1 m2 m3 c0 c1 c2 : Nat} (hp : PlOk a b) (hB : t0 + t1 ≤ 90000) (hc0 : c0 ≤ 10) (hc1 : c1 ≤ 10) (hc2 : c2 ≤ 10) (h0 : m0 < 4) (h1 : m1 < 4) (h2 : m2 < 4) (h3 : m3 < 4) (h01 : m0 ≠ m1) (h02 : m0 ≠ m2) (h03 : m0 ≠ m3) (h12 : m1 ≠ m2) (h13 : m1 ≠ m3) (h23 : m2 ≠ m3)
    (q : ∀ o13, k E (envT sc a b wi t0 t1 ri o5 o6 o7 o8 o9 (some (.own [.int (c0 : Nat), .int (c1 : Nat), .int (c2 : Nat)])) (some (.own (natD [m0, m1, m2, m3]))) (some (.own ((bunchB m0 m1 m2 m3 c0 c1 c2).map prD))) o13 o14)) :
    rW1 k E (envT sc a b wi t0 t1 ri o5 o6 o7 o8 o9 (some (.own [.int (c0 : Nat), .int (c1 : Nat), .int (c2 : Nat)])) (some (.own (natD [m0, m1, m2, m3]))) o12 o13 o14) := by
  unfold rW1
  walk_at "wh"
  refine ⟨Nat.zero_le _, ?_⟩
  walk_at "wh"
  refine ⟨by decide, by decide, fun i env => ∃ o13, env = envT sc a b wi t0 t1 ri o5 o6 o7 o8 o9 (some (.own [.int (c0 : Nat), .int (c1 : Nat), .int (c2 : Nat)])) (some (.own (natD [m0, m1, m2, m3]))) (some (.own ((blkB m0 m1 m2 m3 c0 c1 c2 i).map prD))) o13 o14, ⟨_, rfl⟩, ?_, ?_⟩
  · rintro i x env hx ⟨o13, rfl⟩
    obtain ⟨ex, hi⟩ := rngD_at hx
    subst ex
    rw [Int.zero_add]
    have step : ∀ (C : List (Nat × Nat)) (u v n : Nat), C.length ≤ 30 → n ≤ 10 → C ++ List.replicate n (u, v) = blkB m0 m1 m2 m3 c0 c1 c2 (i + 1) → C.length + (List.replicate n [prD (u, v)]).flatten.length ≤ sizeLine ∧ C.map prD ++ (List.replicate n [prD (u, v)]).flatten = (blkB m0 m1 m2 m3 c0 c1 c2 (i + 1)).map prD := fun C u v n hC hn e => by
      rw [rep_pr, ← e, List.map_append, List.length_map, List.length_replicate, sizeLine_eq]
      exact ⟨by omega, rfl⟩
    have one : ∀ n : Nat, n ≤ 10 → -(2 ^ 63 : Int) ≤ ((n : Nat) : Int) ∧ ((n : Nat) : Int) < 2 ^ 63 ∧ 1 * ((n : Nat) : Int).toNat ≤ sizeLine := fun n hn => by
      rw [sizeLine_eq]
      omega
    have : i = 0 ∨ i = 1 ∨ i = 2 := by
      have : i < 3 := hi
      omega
    rcases this with rfl | rfl | rfl
    · obtain ⟨k1, k2, k3⟩ := one c0 hc0
      obtain ⟨s1, s2⟩ := step [] m0 m1 c0 (by decide) hc0 rfl
      walk_at "wh"
      refine ⟨_, rfl, ?_⟩
      walk_at "wh"
      refine ⟨_, rfl, ?_⟩
      walk_at "wh"
      refine ⟨(by decide : 2 ≤ sizeLine), ?_⟩
      walk_at "wh"
      refine ⟨(by decide : 1 ≤ sizeLine), ?_⟩
      walk_at "wh"
      refine ⟨_, rfl, ?_⟩
      walk_at "wh"
      refine ⟨k1, k2, k3, ?_⟩
      walk_at "wh"
      refine ⟨s1, ?_⟩
      walk_at "wh"
      exact ⟨_, congrArg (fun z => envT sc a b wi t0 t1 ri o5 o6 o7 o8 o9 (some (.own [.int (c0 : Nat), .int (c1 : Nat), .int (c2 : Nat)])) (some (.own (natD [m0, m1, m2, m3]))) (some (.own z)) (some (.d (.int (0 : Nat)))) o14) s2⟩
    · obtain ⟨k1, k2, k3⟩ := one c1 hc1
      obtain ⟨s1, s2⟩ := step (List.replicate c0 (m0, m1)) m1 m2 c1 (by rw [List.length_replicate]; omega) hc1 rfl
      walk_at "wh"
      refine ⟨_, rfl, ?_⟩
      walk_at "wh"
      refine ⟨_, rfl, ?_⟩
      walk_at "wh"
      refine ⟨(by decide : 2 ≤ sizeLine), ?_⟩
      walk_at "wh"
      refine ⟨(by decide : 1 ≤ sizeLine), ?_⟩
      walk_at "wh"
      refine ⟨_, rfl, ?_⟩
      walk_at "wh"
      refine ⟨k1, k2, k3, ?_⟩
      walk_at "wh"
      refine ⟨by rw [List.length_map]; exact s1, ?_⟩
      walk_at "wh"
      exact ⟨_, congrArg (fun z => envT sc a b wi t0 t1 ri o5 o6 o7 o8 o9 (some (.own [.int (c0 : Nat), .int (c1 : Nat), .int (c2 : Nat)])) (some (.own (natD [m0, m1, m2, m3]))) (some (.own z)) (some (.d (.int (1 : Nat)))) o14) s2⟩
    · obtain ⟨k1, k2, k3⟩ := one c2 hc2
      obtain ⟨s1, s2⟩ := step (List.replicate c0 (m0, m1) ++ List.replicate c1 (m1, m2)) m2 m3 c2 (by rw [List.length_append, List.length_replicate, List.length_replicate]; omega) hc2 rfl
      walk_at "wh"
      refine ⟨_, rfl, ?_⟩
      walk_at "wh"
      refine ⟨_, rfl, ?_⟩
      walk_at "wh"
      refine ⟨(by decide : 2 ≤ sizeLine), ?_⟩
      walk_at "wh"
      refine ⟨(by decide : 1 ≤ sizeLine), ?_⟩
      walk_at "wh"
      refine ⟨_, rfl, ?_⟩
      walk_at "wh"
      refine ⟨k1, k2, k3, ?_⟩
      walk_at "wh"
      refine ⟨by rw [List.length_map]; exact s1, ?_⟩
      walk_at "wh"
      exact ⟨_, congrArg (fun z => envT sc a b wi t0 t1 ri o5 o6 o7 o8 o9 (some (.own [.int (c0 : Nat), .int (c1 : Nat), .int (c2 : Nat)])) (some (.own (natD [m0, m1, m2, m3]))) (some (.own z)) (some (.d (.int (2 : Nat)))) o14) s2⟩
  · rintro env ⟨o13, rfl⟩
    exact q _
end
end K76
set_option Elab.async false
set_option linter.all false
set_option maxRecDepth 100000
set_option maxHeartbeats 1000000
set_option exponentiation.threshold 20000
set_option pp.deepTerms false
set_option pp.maxSteps 500
namespace K76
open PySem PySem.Spec PyProof.Rows L2 Pf
local macro_rules | `(tactic| walk_at "go") => `(tactic| (conv => whnf) <;> repeat ((first | refine atE rfl ?_ | refine andR ?_ ?_); (conv => whnf)))
local macro_rules | `(tactic| walk_at "wh") => `(tactic| conv => whnf)
local macro_rules | `(tactic| walk_at "len") => `(tactic| (intro os Q h; (repeat (obtain ⟨_, h⟩ := h)); subst_vars; rfl))
local macro_rules | `(tactic| walk_at "keep") => `(tactic| (intro os Q h; (repeat (obtain ⟨_, h⟩ := h)); subst_vars; simp [keepOk]))
local macro_rules | `(tactic| walk_at "mono") => `(tactic| (intro os k k' f; repeat (first | exact f _ _ | refine Exists.imp fun _ => ?_ | refine And.imp_right ?_ | refine forall_imp fun _ => ?_)))
open Fl (Net)
section
variable {E : Pf.End} {k k0 : RS} {sc wi : D} {a b : Int} {t0 t1 : Nat} {ri : O} {o5 o6 o7 o8 o9 o10 o11 o12 o13 o14 : Option O}
theorem pw0 (hp : PlOk a b) (hB : t0 + t1 ≤ 90000) (q : ∀ a b m0 m1 m2 m3 c0 c1 c2, PlOk a b → c0 ≤ 10 → c1 ≤ 10 → c2 ≤ 10 → m0 < 4 → m1 < 4 → m2 < 4 → m3 < 4 → m0 ≠ m1 → m0 ≠ m2 → m0 ≠ m3 → m1 ≠ m2 → m1 ≠ m3 → m2 ≠ m3 → k E (envT sc a b wi t0 t1 ri o5 o6 o7 o8 o9 (some (.own [.int (c0 : Nat), .int (c1 : Nat), .int (c2 : Nat)])) (some (.own (natD [m0, m1, m2, m3]))) o12 o13 o14)) :
    rW0 k E (envT sc a b wi t0 t1 ri o5 o6 o7 o8 o9 o10 o11 o12 o13 o14) := by
  unfold rW0
  walk_at "wh"
  refine ⟨a, b, 9, rfl, hp, by decide, by decide, fun x0 a1 b1 hx0 hp1 => ?_⟩
  walk_at "wh"
  refine ⟨a1, b1, 9, rfl, hp1, by decide, by decide, fun x1 a2 b2 hx1 hp2 => ?_⟩
  walk_at "wh"
  refine ⟨a2, b2, 6, rfl, hp2, by decide, by decide, fun x2 a3 b3 hx2 hp3 => ?_⟩
  obtain ⟨c0, e0, k0⟩ : ∃ c0 : Nat, 1 + ((x0 : Nat) : Int) = (c0 : Nat) ∧ c0 ≤ 10 := ⟨1 + x0, by omega, by omega⟩
  obtain ⟨c1, e1, k1⟩ : ∃ c0 : Nat, 1 + ((x1 : Nat) : Int) = (c0 : Nat) ∧ c0 ≤ 10 := ⟨1 + x1, by omega, by omega⟩
  obtain ⟨c2, e2, k2⟩ : ∃ c0 : Nat, 1 + ((x2 : Nat) : Int) = (c0 : Nat) ∧ c0 ≤ 10 := ⟨1 + x2, by omega, by omega⟩
  walk_at "wh"
  refine ⟨(by decide : 3 ≤ sizeLine), ?_⟩
  walk_at "wh"
  refine ⟨a3, b3, 4, rfl, hp3, by decide, fun ks a4 b4 hks hp4 => ?_⟩
  have kl := hks.length_eq
  rw [List.length_range] at kl
  have klt : ∀ m ∈ ks, m < 4 := fun m hm => List.mem_range.mp (hks.mem_iff.mp hm)
  have knd : ks.Nodup := hks.nodup_iff.mpr List.nodup_range
  match ks, kl with
  | [m0, m1, m2, m3], _ =>
    have n0 := klt m0 (by simp)
    have n1 := klt m1 (by simp)
    have n2 := klt m2 (by simp)
    have n3 := klt m3 (by simp)
    simp only [List.nodup_cons, List.mem_cons, List.mem_singleton, not_or, List.not_mem_nil, not_false_eq_true, List.nodup_nil, and_true] at knd
    obtain ⟨⟨h01, h02, h03⟩, ⟨h12, h13⟩, h23⟩ := knd
    walk_at "wh"
    have key : k E (envT sc a4 b4 wi t0 t1 ri o5 o6 o7 o8 o9 (some (.own [.int (1 + ((x0 : Nat) : Int)), .int (1 + ((x1 : Nat) : Int)), .int (1 + ((x2 : Nat) : Int))])) (some (.own (natD [m0, m1, m2, m3]))) o12 o13 o14) := by
      rw [e0, e1, e2]
      exact q a4 b4 m0 m1 m2 m3 c0 c1 c2 hp4 k0 k1 k2 n0 n1 n2 n3 h01 h02 h03 h12 h13 h23
    exact key
end
end K76
set_option Elab.async false
set_option linter.all false
set_option maxRecDepth 100000
set_option maxHeartbeats 1000000
set_option exponentiation.threshold 20000
set_option pp.deepTerms false
set_option pp.maxSteps 500
namespace K76
open PySem PySem.Spec PyProof.Rows L2 Pf
local macro_rules | `(tactic| walk_at "go") => `(tactic| (conv => whnf) <;> repeat ((first | refine atE rfl ?_ | refine andR ?_ ?_); (conv => whnf)))
local macro_rules | `(tactic| walk_at "wh") => `(tactic| conv => whnf)
local macro_rules | `(tactic| walk_at "len") => `(tactic| (intro os Q h; (repeat (obtain ⟨_, h⟩ := h)); subst_vars; rfl))
local macro_rules | `(tactic| walk_at "keep") => `(tactic| (intro os Q h; (repeat (obtain ⟨_, h⟩ := h)); subst_vars; simp [keepOk]))
local macro_rules | `(tactic| walk_at "mono") => `(tactic| (intro os k k' f; repeat (first | exact f _ _ | refine Exists.imp fun _ => ?_ | refine And.imp_right ?_ | refine forall_imp fun _ => ?_)))
open Fl (Net)
section
variable {E : Pf.End} {k k0 : RS} {sc wi : D} {a b : Int} {t0 t1 : Nat} {ri : O} {o5 o6 o7 o8 o9 o10 o11 o12 o13 o14 : Option O}
theorem ptw (wb : Bool) (hw : wi = .bool wb) (q0 : k0 { E with nx := fun e => k E e } (envT sc a b wi t0 t1 ri o5 o6 o7 o8 o9 o10 o11 o12 o13 o14)) (q : k E (envT sc a b wi t0 t1 ri o5 o6 o7 o8 o9 o10 o11 o12 o13 o14)) :
    rTw k0 k E (envT sc a b wi t0 t1 ri o5 o6 o7 o8 o9 o10 o11 o12 o13 o14) := by
  subst hw
  unfold rTw
  cases wb with
  | true =>
    walk_at "wh"
    exact q0
  | false =>
    walk_at "wh"
    exact q
end
end K76
set_option Elab.async false
set_option linter.all false
set_option maxRecDepth 100000
set_option maxHeartbeats 1000000
set_option exponentiation.threshold 20000
set_option pp.deepTerms false
set_option pp.maxSteps 500
namespace K76
open PySem PySem.Spec PyProof.Rows L2 Pf
local macro_rules | `(tactic| walk_at "go") => `(tactic| (conv => whnf) <;> repeat ((first | refine atE rfl ?_ | refine andR ?_ ?_); (conv => whnf)))
local macro_rules | `(tactic| walk_at "wh") => `(tactic| conv => whnf)
local macro_rules | `(tactic| walk_at "len") => `(tactic| (intro os Q h; (repeat (obtain ⟨_, h⟩ := h)); subst_vars; rfl))
local macro_rules | `(tactic| walk_at "keep") => `(tactic| (intro os Q h; (repeat (obtain ⟨_, h⟩ := h)); subst_vars; simp [keepOk]))
local macro_rules | `(tactic| walk_at "mono") => `(tactic| (intro os k k' f; repeat (first | exact f _ _ | refine Exists.imp fun _ => ?_ | refine And.imp_right ?_ | refine forall_imp fun _ => ?_)))
open Fl (Net)
section
variable {E : Pf.End} {k k0 : RS} {sc wi : D} {a b : Int} {t0 t1 : Nat} {ri : O} {o5 o6 o7 o8 o9 o10 o11 o12 o13 o14 : Option O}
theorem ptf (hp : PlOk a b) (hB : t0 + t1 ≤ 80000) (ql : ∀ (E' : Pf.End) a b t0 t1 o5 o6 o7 o8 o9, PlOk a b → t0 + t1 ≤ 90000 → (∀ a b t0' t1' o5 o6 o7 o9, PlOk a b → t0 < t0' → t1 < t1' → t0' + t1' ≤ t0 + t1 + 62 → E'.nx (envT sc a b wi t0' t1' ri o5 o6 o7 o8 o9 o10 o11 o12 o13 o14)) → k0 E' (envT sc a b wi t0 t1 ri o5 o6 o7 o8 o9 o10 o11 o12 o13 o14))
    (q : ∀ a b t0' t1' o5 o6 o7 o8 o9, PlOk a b → t0 ≤ t0' → t1 ≤ t1' → t0' + t1' ≤ 90000 → k E (envT sc a b wi t0' t1' ri o5 o6 o7 o8 o9 o10 o11 o12 o13 o14)) :
    rTf k0 k E (envT sc a b wi t0 t1 ri o5 o6 o7 o8 o9 o10 o11 o12 o13 o14) := by
  unfold rTf
  walk_at "wh"
  refine ⟨by decide, by decide, fun i env => ∃ a b t0' t1' o5 o6 o7 o8 o9, env = envT sc a b wi t0' t1' ri o5 o6 o7 o8 o9 o10 o11 o12 o13 o14 ∧ PlOk a b ∧ t0 ≤ t0' ∧ t1 ≤ t1' ∧ t0' + t1' ≤ t0 + t1 + 62 * i, ⟨a, b, t0, t1, _, _, _, _, _, rfl, hp, Nat.le_refl _, Nat.le_refl _, by omega⟩, ?_, ?_⟩
  · rintro i x env hx ⟨a, b, t0', t1', o5, o6, o7, o8, o9, rfl, hp, k0, k1, k2⟩
    obtain ⟨ex, hi⟩ := rngD_at hx
    have hi : i < 4 := hi
    walk_at "wh"
    exact ql _ a b t0' t1' o5 o6 o7 _ o9 hp (by omega) fun a b t0'' t1'' o5 o6 o7 o9 hp' l0 l1 l2 => ⟨a, b, t0'', t1'', _, _, _, _, _, rfl, hp', by omega, by omega, by omega⟩
  · rintro env ⟨a, b, t0', t1', o5, o6, o7, o8, o9, rfl, hp, k0, k1, k2⟩
    have k2 : t0' + t1' ≤ t0 + t1 + 62 * 4 := k2
    exact q a b t0' t1' o5 o6 o7 o8 o9 hp k0 k1 (by omega)
end
end K76
set_option Elab.async false
set_option linter.all false
set_option maxRecDepth 100000
set_option maxHeartbeats 1000000
set_option exponentiation.threshold 20000
set_option pp.deepTerms false
set_option pp.maxSteps 500
namespace K76
open PySem PySem.Spec PyProof.Rows L2 Pf
local macro_rules | `(tactic| walk_at "go") => `(tactic| (conv => whnf) <;> repeat ((first | refine atE rfl ?_ | refine andR ?_ ?_); (conv => whnf)))
local macro_rules | `(tactic| walk_at "wh") => `(tactic| conv => whnf)
local macro_rules | `(tactic| walk_at "len") => `(tactic| (intro os Q h; (repeat (obtain ⟨_, h⟩ := h)); subst_vars; rfl))
local macro_rules | `(tactic| walk_at "keep") => `(tactic| (intro os Q h; (repeat (obtain ⟨_, h⟩ := h)); subst_vars; simp [keepOk]))
local macro_rules | `(tactic| walk_at "mono") => `(tactic| (intro os k k' f; repeat (first | exact f _ _ | refine Exists.imp fun _ => ?_ | refine And.imp_right ?_ | refine forall_imp fun _ => ?_)))
open Fl (Net)
section
variable {E : Pf.End} {k k0 : RS} {sc wi : D} {a b : Int} {t0 t1 : Nat} {ri : O} {o5 o6 o7 o8 o9 o10 o11 o12 o13 o14 : Option O}
theorem pt2 (hp : PlOk a b) (hB : t0 + t1 ≤ 70000) (q : ∀ a b t0' t1' o5 o6 o7, PlOk a b → t0 < t0' → t1 < t1' → t0' + t1' ≤ 80000 → k E (envT sc a b wi t0' t1' ri o5 o6 o7 o8 o9 o10 o11 o12 o13 o14)) :
    rT2 k E (envT sc a b wi t0 t1 ri o5 o6 o7 o8 o9 o10 o11 o12 o13 o14) := by
  unfold rT2
  walk_at "wh"
  refine ⟨a, b, rfl, hp, fun ns L marks ord a1 b1 hns hmk hord hL hp1 => ?_⟩
  obtain ⟨mn, x1, x2, x3, x4⟩ := cross_min hmk hord hL
  have ll : L.length = 9 := by
    rw [hL.1, hord.length_eq, List.length_range]
  walk_at "wh"
  refine ⟨rfl, ?_⟩
  walk_at "wh"
  refine ⟨Nat.zero_le _, ?_⟩
  walk_at "wh"
  refine ⟨a1, b1, ns, L, [], mkAt marks 0, mkAt marks 3, 2, t0, t1, rfl, hp1, by omega, by omega, by rw [hns]; exact x4, by omega, by omega, x3, fun x h => (nomatch h), Nat.zero_le _, mn, by omega, fun a6 b6 t0' t1' hp6 g0 g1 g2 => ?_⟩
  walk_at "wh"
  exact q _ _ _ _ _ _ _ hp6 g0 g1 (by omega)
end
end K76
set_option Elab.async false
set_option linter.all false
set_option maxRecDepth 100000
set_option maxHeartbeats 1000000
set_option exponentiation.threshold 20000
set_option pp.deepTerms false
set_option pp.maxSteps 500
namespace K76
open PySem PySem.Spec PyProof.Rows L2 Pf
local macro_rules | `(tactic| walk_at "go") => `(tactic| (conv => whnf) <;> repeat ((first | refine atE rfl ?_ | refine andR ?_ ?_); (conv => whnf)))
local macro_rules | `(tactic| walk_at "wh") => `(tactic| conv => whnf)
local macro_rules | `(tactic| walk_at "len") => `(tactic| (intro os Q h; (repeat (obtain ⟨_, h⟩ := h)); subst_vars; rfl))
local macro_rules | `(tactic| walk_at "keep") => `(tactic| (intro os Q h; (repeat (obtain ⟨_, h⟩ := h)); subst_vars; simp [keepOk]))
local macro_rules | `(tactic| walk_at "mono") => `(tactic| (intro os k k' f; repeat (first | exact f _ _ | refine Exists.imp fun _ => ?_ | refine And.imp_right ?_ | refine forall_imp fun _ => ?_)))
open Fl (Net)
section
variable {E : Pf.End} {k k0 : RS} {sc wi : D} {a b : Int} {t0 t1 : Nat} {ri : O} {o5 o6 o7 o8 o9 o10 o11 o12 o13 o14 : Option O}
theorem pt1 (hp : PlOk a b) (q : ∀ a b t0' t1', PlOk a b → t0' + t1' ≤ 70000 → k E (envT sc a b wi t0' t1' (.d (lvD ["m", "n", "o"] ringL)) o5 o6 o7 o8 o9 o10 o11 o12 o13 o14)) :
    rT1 k E (envT sc a b wi 0 0 (.d (lvD ["m", "n", "o"] ringL)) o5 o6 o7 o8 o9 o10 o11 o12 o13 o14) := by
  have rL : ∀ l ∈ ringL, l.2.1 < 3 ∧ l.2.2 < 3 := by decide
  unfold rT1
  walk_at "wh"
  refine ⟨Nat.zero_le _, ?_⟩
  walk_at "wh"
  refine ⟨a, b, ["m", "n", "o"], ringL, [], 0, 1, 3, 0, 0, rfl, hp, by decide, by decide, rL, by decide, by decide, by decide, fun x h => (nomatch h), Nat.zero_le _, ring_min1, by decide, fun a6 b6 t0' t1' hp6 g0 g1 g2 => ?_⟩
  walk_at "wh"
  refine ⟨(by decide : 1 ≤ sizeLine), ?_⟩
  walk_at "wh"
  refine ⟨a6, b6, ["m", "n", "o"], ringL, [1], 2, 0, 1, t0', t1', rfl, hp6, by decide, by decide, rL, by decide, by decide, by decide, (by decide : ∀ x ∈ [1], x < ringL.length), by decide, ring_min2, by omega, fun a7 b7 t0'' t1'' hp7 k0 k1 k2 => ?_⟩
  walk_at "wh"
  exact q _ _ _ _ hp7 (by omega)
end
end K76
set_option Elab.async false
set_option linter.all false
set_option maxRecDepth 100000
set_option maxHeartbeats 1000000
set_option exponentiation.threshold 20000
set_option pp.deepTerms false
set_option pp.maxSteps 500
namespace K76
open PySem PySem.Spec PyProof.Rows L2 Pf
local macro_rules | `(tactic| walk_at "go") => `(tactic| (conv => whnf) <;> repeat ((first | refine atE rfl ?_ | refine andR ?_ ?_); (conv => whnf)))
local macro_rules | `(tactic| walk_at "wh") => `(tactic| conv => whnf)
local macro_rules | `(tactic| walk_at "len") => `(tactic| (intro os Q h; (repeat (obtain ⟨_, h⟩ := h)); subst_vars; rfl))
local macro_rules | `(tactic| walk_at "keep") => `(tactic| (intro os Q h; (repeat (obtain ⟨_, h⟩ := h)); subst_vars; simp [keepOk]))
local macro_rules | `(tactic| walk_at "mono") => `(tactic| (intro os k k' f; repeat (first | exact f _ _ | refine Exists.imp fun _ => ?_ | refine And.imp_right ?_ | refine forall_imp fun _ => ?_)))
/-! the law -/
def sp_law : FSp := fun os Q => ∃ script : List Int, os = [.d (.list (zD script))] ∧ script.length ≤ 63 ∧ Q (.d (.bool true)) os
theorem mono_law : sp_law.Mono := by walk_at "mono"
/-! ### law -/
abbrev s_law : Stmt := topS 56
abbrev n_law : List Str := ["script", "pool", "wide", "tally", "ring", "levels", "mark", "other", "lap", "blanks", "bunches", "marks", "pairs", "k", "names"]
theorem sc_law : FnScope n_law ["script"] (defScope s_law) := ⟨rfl, rfl, rfl, by decide +kernel, rfl, by decide +kernel, by decide +kernel⟩
def r_law : RS := (rSeq (rSet 1 (rCall sp_law_pool (rACons (rN 0) rANil)))
  (rSeq (rSet 2 (rO (rTV (rCmp (dEq false) (rP (rD (rCall sp_law_draw (rACons (rN 1) (rACons (rP (rC (.int 7))) rANil))))) (rP (rC (.int 1)))))))
  (rSeq (rSet 3 (rLst (rCons (rC (.int 0)) (rCons (rC (.int 0)) rNil))))
  (rSeq (rSet 4 (rO (rTup (rCons (rTup (rCons (rC (.str "m")) (rCons (rC (.str "n")) (rCons (rC (.str "o")) rNil)))) (rCons (rTup (rCons (rTup (rCons (rC (.str "p")) (rCons (rC (.int 0)) (rCons (rC (.int 1)) rNil)))) (rCons (rTup (rCons (rC (.str "q")) (rCons (rC (.int 1)) (rCons (rC (.int 2)) rNil)))) (rCons (rTup (rCons (rC (.str "r")) (rCons (rC (.int 0)) (rCons (rC (.int 2)) rNil)))) (rCons (rTup (rCons (rC (.str "s")) (rCons (rC (.int 0)) (rCons (rC (.int 1)) rNil)))) rNil))))) rNil)))))
  (rSeq (rIfS (rOr (rNot (rTb (rD (rCall sp_law_holds (rACons (rN 1) (rACons (rN 4) (rACons (rP (rTup rNil)) (rACons (rP (rC (.int 0))) (rACons (rP (rC (.int 1))) (rACons (rP (rC (.int 3))) (rACons (rN 3) rANil))))))))))) (rNot (rTb (rD (rCall sp_law_holds (rACons (rN 1) (rACons (rN 4) (rACons (rP (rTup (rCons (rC (.int 1)) rNil))) (rACons (rP (rC (.int 2))) (rACons (rP (rC (.int 0))) (rACons (rP (rC (.int 1))) (rACons (rN 3) rANil)))))))))))) (rRet (rO (rC (.bool false)))) rNext)
  (rSeq (rAsgT (rD (rCall sp_law_crossed (rACons (rN 1) rANil))) (rGt 3 (rGcons (rGn 5) (rGcons (rGn 6) (rGcons (rGn 7) rGnil)))))
  (rSeq (rIfS (rNot (rTb (rD (rCall sp_law_holds (rACons (rN 1) (rACons (rN 5) (rACons (rP (rTup rNil)) (rACons (rN 6) (rACons (rN 7) (rACons (rP (rC (.int 2))) (rACons (rN 3) rANil))))))))))) (rRet (rO (rC (.bool false)))) rNext)
  (rSeq (rFor (rRng1 (rC (.int 4))) (rGn 8) (rSeq (rSet 5 (rCall sp_law_levels (rACons (rN 1) (rACons (rP (rD (rCall sp_law_draw (rACons (rN 1) (rACons (rP (rC (.int 6))) rANil))))) (rACons (rP (rD (rOp dAdd (rP (rC (.int 1))) (rP (rD (rCall sp_law_draw (rACons (rN 1) (rACons (rP (rC (.int 5))) rANil)))))))) (rACons (rP (rC (.int 14))) rANil))))))
  (rIfS (rCmp bGt (rP (rD (rCB fLen (rACons (rP (rD (rOp dIx (rN 5) (rP (rC (.int 0)))))) rANil)))) (rP (rC (.int 1)))) (rSeq (rSet 9 (rCall sp_law_blanks (rACons (rN 1) (rACons (rN 5) (rACons (rP (rC (.int 6))) rANil)))))
  (rSeq (rAsgT (rD (rCall sp_law_two (rACons (rN 1) (rACons (rN 5) rANil)))) (rGt 2 (rGcons (rGn 6) (rGcons (rGn 7) rGnil))))
  (rIfS (rNot (rTb (rD (rCall sp_law_holds (rACons (rN 1) (rACons (rN 5) (rACons (rN 9) (rACons (rN 6) (rACons (rN 7) (rACons (rP (rD (rCall sp_law_least (rACons (rN 5) (rACons (rN 9) (rACons (rN 6) (rACons (rN 7) rANil))))))) (rACons (rN 3) rANil))))))))))) (rRet (rO (rC (.bool false)))) rNext))) rNext)))
  (rSeq (rIfS (rTb (rVar 2)) (rSeq (rSet 10 (rLst (rCons (rD (rOp dAdd (rP (rC (.int 1))) (rP (rD (rCall sp_law_draw (rACons (rN 1) (rACons (rP (rC (.int 9))) rANil))))))) (rCons (rD (rOp dAdd (rP (rC (.int 1))) (rP (rD (rCall sp_law_draw (rACons (rN 1) (rACons (rP (rC (.int 9))) rANil))))))) (rCons (rD (rOp dAdd (rP (rC (.int 1))) (rP (rD (rCall sp_law_draw (rACons (rN 1) (rACons (rP (rC (.int 6))) rANil))))))) rNil)))))
  (rSeq (rSet 11 (rCall sp_law_order (rACons (rN 1) (rACons (rP (rC (.int 4))) rANil))))
  (rSeq (rSet 12 (rLst rNil))
  (rSeq (rFor (rRng1 (rC (.int 3))) (rGn 13) (rSet 12 (rOp dAdd (rN 12) (rP (rD (rRepL (rLst (rCons (rTup (rCons (rD (rOp dIx (rN 11) (rN 13))) (rCons (rD (rOp dIx (rN 11) (rP (rD (rOp dAdd (rN 13) (rP (rC (.int 1)))))))) rNil))) rNil)) (rD (rOp dIx (rN 10) (rN 13)))))))))
  (rSeq (rSet 12 (rLc (rFs (rD (rCall sp_law_order (rACons (rN 1) (rACons (rP (rD (rCB fLen (rACons (rN 12) rANil)))) rANil))))) (rGn 13) rYes (rD (rIf (rCmp (dEq false) (rP (rD (rCall sp_law_draw (rACons (rN 1) (rACons (rP (rC (.int 2))) rANil))))) (rP (rC (.int 0)))) (rO (rD (rOp dIx (rN 12) (rN 13)))) (rRevT (rP (rD (rOp dIx (rN 12) (rN 13))))))) [13]))
  (rSeq (rSet 14 (rCall sp_law_names (rACons (rN 1) (rACons (rP (rD (rOp dAdd (rP (rC (.int 4))) (rP (rD (rCB fLen (rACons (rN 12) rANil))))))) rANil))))
  (rSeq (rSet 5 (rO (rTup (rCons (rD (rCB fTuple (rACons (rP (rD (rSl (rN 14) rNoI (rSoI (rC (.int 4)))))) rANil))) (rCons (rD (rCB fTuple (rACons (rP (rD (rLc (rRng1 (rD (rCB fLen (rACons (rN 12) rANil)))) (rGn 13) rYes (rTup (rCons (rD (rOp dIx (rN 14) (rP (rD (rOp dAdd (rP (rC (.int 4))) (rN 13)))))) (rCons (rD (rOp dIx (rP (rD (rOp dIx (rN 12) (rN 13)))) (rP (rC (.int 0))))) (rCons (rD (rOp dIx (rP (rD (rOp dIx (rN 12) (rN 13)))) (rP (rC (.int 1))))) rNil)))) [13]))) rANil))) rNil)))))
  (rIfS (rNot (rTb (rD (rCall sp_law_holds (rACons (rN 1) (rACons (rN 5) (rACons (rP (rTup rNil)) (rACons (rP (rD (rOp dIx (rN 11) (rP (rC (.int 0)))))) (rACons (rP (rD (rOp dIx (rN 11) (rP (rC (.int 3)))))) (rACons (rP (rD (rCB fMinL (rACons (rN 10) rANil)))) (rACons (rN 3) rANil))))))))))) (rRet (rO (rC (.bool false)))) rNext)))))))) rNext)
  (rRet (rO (rAndV (rTV (rCmp bGt (rP (rD (rOp dIx (rN 3) (rP (rC (.int 0)))))) (rP (rC (.int 0))))) (rTV (rCmp bGt (rP (rD (rOp dIx (rN 3) (rP (rC (.int 1)))))) (rP (rC (.int 0)))))))))))))))))
theorem q_law {P : Program} {w : World} {K : Fg} {mg : Str → Option Value} {base : Heap} {f : Addr} (g : Gs K mg) (h_law_pool : Has P w K mg base "_law_pool" ["script"] 1 sp_law_pool) (h_law_draw : Has P w K mg base "_law_draw" ["pool", "many"] 1 sp_law_draw) (h_law_order : Has P w K mg base "_law_order" ["pool", "many"] 2 sp_law_order) (h_law_names : Has P w K mg base "_law_names" ["pool", "many"] 2 sp_law_names) (h_law_levels : Has P w K mg base "_law_levels" ["pool", "kind", "size", "most"] 3 sp_law_levels) (h_law_blanks : Has P w K mg base "_law_blanks" ["pool", "levels", "part"] 2 sp_law_blanks) (h_law_two : Has P w K mg base "_law_two" ["pool", "levels"] 2 sp_law_two) (h_law_least : Has P w K mg base "_law_least" ["levels", "blanks", "mark", "other"] 2 sp_law_least) (h_law_crossed : Has P w K mg base "_law_crossed" ["pool"] 3 sp_law_crossed) (h_law_holds : Has P w K mg base "_law_holds" ["pool", "levels", "blanks", "mark", "other", "least", "tally"] 6 sp_law_holds) (cdv : Value) (A : Around) (outer : List PySem.Env) (s : Shared) (H : Hp) (E : XK) (hr : Room 6 (A.deeper (envOfC "law" (defScope s_law) s.heap.objs.size f cdv))) :
    QSs (cxOf CX0 P w K mg base n_law "law" (defScope s_law) f cdv A outer s H E).nox [] (defBody s_law) r_law :=
  (qss_cons (qs_set 1 sc_law.nd (qe_call h_law_pool (hr.mono (by decide)) (qa_cons (qp_var 0) qa_nil)))
  (qss_cons (qs_set 2 sc_law.nd (QV.o (qv_eq hr.units ((QE.v (qe_call h_law_draw (hr.mono (by decide)) (qa_cons (qp_var 1) (qa_cons (qv_int).p qa_nil))))).p (qv_int).p)))
  (qss_cons (qs_set 3 sc_law.nd (qe_lst (ql_cons qv_int (ql_cons qv_int ql_nil))))
  (qss_cons (qs_set 4 sc_law.nd (QV.o (qv_tup (ql_cons (qv_tup (ql_cons qv_str (ql_cons qv_str (ql_cons qv_str ql_nil)))) (ql_cons (qv_tup (ql_cons (qv_tup (ql_cons qv_str (ql_cons qv_int (ql_cons qv_int ql_nil)))) (ql_cons (qv_tup (ql_cons qv_str (ql_cons qv_int (ql_cons qv_int ql_nil)))) (ql_cons (qv_tup (ql_cons qv_str (ql_cons qv_int (ql_cons qv_int ql_nil)))) (ql_cons (qv_tup (ql_cons qv_str (ql_cons qv_int (ql_cons qv_int ql_nil)))) ql_nil))))) ql_nil)))))
  (qss_cons (qs_if (QW.t (qw_or (qt_not (qt_call (QE.v (qe_call h_law_holds (hr.mono (by decide)) (qa_cons (qp_var 1) (qa_cons (qp_var 4) (qa_cons ((qv_tup ql_nil)).p (qa_cons (qv_int).p (qa_cons (qv_int).p (qa_cons (qv_int).p (qa_cons (qp_var 3) qa_nil))))))))))) (qw_or1 (qt_not (qt_call (QE.v (qe_call h_law_holds (hr.mono (by decide)) (qa_cons (qp_var 1) (qa_cons (qp_var 4) (qa_cons ((qv_tup (ql_cons qv_int ql_nil))).p (qa_cons (qv_int).p (qa_cons (qv_int).p (qa_cons (qv_int).p (qa_cons (qp_var 3) qa_nil)))))))))))))) (qss_one (qs_ret (QV.o qv_bl))) qss_nil)
  (qss_cons (qs_asgT (QE.v (qe_call h_law_crossed (hr.mono (by decide)) (qa_cons (qp_var 1) qa_nil))) (qg_tup 3 rfl (qgs_cons (qg_name 5 sc_law.nd) (qgs_cons (qg_name 6 sc_law.nd) (qgs_cons (qg_name 7 sc_law.nd) qgs_nil)))))
  (qss_cons (qs_if (qt_not (qt_call (QE.v (qe_call h_law_holds (hr.mono (by decide)) (qa_cons (qp_var 1) (qa_cons (qp_var 5) (qa_cons ((qv_tup ql_nil)).p (qa_cons (qp_var 6) (qa_cons (qp_var 7) (qa_cons (qv_int).p (qa_cons (qp_var 3) qa_nil))))))))))) (qss_one (qs_ret (QV.o qv_bl))) qss_nil)
  (qss_cons (qs_for PassesOwn.never rfl (qf_range1 g.range qv_int) (qg_name 8 sc_law.nd) (qss_cons (qs_set 5 sc_law.nd (qe_call h_law_levels (hr.mono (by decide)) (qa_cons (qp_var 1) (qa_cons ((QE.v (qe_call h_law_draw (hr.mono (by decide)) (qa_cons (qp_var 1) (qa_cons (qv_int).p qa_nil))))).p (qa_cons ((QE.v (qe_add (qv_int).p ((QE.v (qe_call h_law_draw (hr.mono (by decide)) (qa_cons (qp_var 1) (qa_cons (qv_int).p qa_nil))))).p))).p (qa_cons (qv_int).p qa_nil))))))
  (qss_one (qs_if (qt_gt ((QE.v (qe_len g.len (qa_cons ((qv_ix (qp_var 5) (qv_int).p)).p qa_nil)))).p (qv_int).p) (qss_cons (qs_set 9 sc_law.nd (qe_call h_law_blanks (hr.mono (by decide)) (qa_cons (qp_var 1) (qa_cons (qp_var 5) (qa_cons (qv_int).p qa_nil)))))
  (qss_cons (qs_asgT (QE.v (qe_call h_law_two (hr.mono (by decide)) (qa_cons (qp_var 1) (qa_cons (qp_var 5) qa_nil)))) (qg_tup 2 rfl (qgs_cons (qg_name 6 sc_law.nd) (qgs_cons (qg_name 7 sc_law.nd) qgs_nil))))
  (qss_one (qs_if (qt_not (qt_call (QE.v (qe_call h_law_holds (hr.mono (by decide)) (qa_cons (qp_var 1) (qa_cons (qp_var 5) (qa_cons (qp_var 9) (qa_cons (qp_var 6) (qa_cons (qp_var 7) (qa_cons ((QE.v (qe_call h_law_least (hr.mono (by decide)) (qa_cons (qp_var 5) (qa_cons (qp_var 9) (qa_cons (qp_var 6) (qa_cons (qp_var 7) qa_nil))))))).p (qa_cons (qp_var 3) qa_nil))))))))))) (qss_one (qs_ret (QV.o qv_bl))) qss_nil)))) qss_nil))))
  (qss_cons (qs_if (qt_val (qv_var 2)) (qss_cons (qs_set 10 sc_law.nd (qe_lst (ql_cons (QE.v (qe_add (qv_int).p ((QE.v (qe_call h_law_draw (hr.mono (by decide)) (qa_cons (qp_var 1) (qa_cons (qv_int).p qa_nil))))).p)) (ql_cons (QE.v (qe_add (qv_int).p ((QE.v (qe_call h_law_draw (hr.mono (by decide)) (qa_cons (qp_var 1) (qa_cons (qv_int).p qa_nil))))).p)) (ql_cons (QE.v (qe_add (qv_int).p ((QE.v (qe_call h_law_draw (hr.mono (by decide)) (qa_cons (qp_var 1) (qa_cons (qv_int).p qa_nil))))).p)) ql_nil)))))
  (qss_cons (qs_set 11 sc_law.nd (qe_call h_law_order (hr.mono (by decide)) (qa_cons (qp_var 1) (qa_cons (qv_int).p qa_nil))))
  (qss_cons (qs_set 12 sc_law.nd (qe_lst ql_nil))
  (qss_cons (qs_for PassesOwn.never rfl (qf_range1 g.range qv_int) (qg_name 13 sc_law.nd) (qss_one (qs_set 12 sc_law.nd (qe_add (qp_var 12) ((QE.v (qe_repL (qe_lst (ql_cons (qv_tup (ql_cons (qv_ix (qp_var 11) (qp_var 13)) (ql_cons (qv_ix (qp_var 11) ((QE.v (qe_add (qp_var 13) (qv_int).p))).p) ql_nil))) ql_nil)) (qv_ix (qp_var 10) (qp_var 13))))).p))))
  (qss_cons (qs_set 12 sc_law.nd (qe_lc (own := [("k", 13)]) rfl sc_law.nd (qf_seq (QE.v (qe_call h_law_order (hr.mono (by decide)) (qa_cons (qp_var 1) (qa_cons ((QE.v (qe_len g.len (qa_cons (qp_var 12) qa_nil)))).p qa_nil))))) (blkOk_by (by rfl)) (fun _ _ _ _ _ => (qg_name 13 sc_law.nd)) (fun _ _ _ _ _ => qts_nil) (fun _ _ _ _ _ => (QE.v (qe_if (qt_eq hr.units ((QE.v (qe_call h_law_draw (hr.mono (by decide)) (qa_cons (qp_var 1) (qa_cons (qv_int).p qa_nil))))).p (qv_int).p) (QV.o (qv_ix (qp_var 12) (qp_var 13))) (qe_revT ((qv_ix (qp_var 12) (qp_var 13))).p))))))
  (qss_cons (qs_set 14 sc_law.nd (qe_call h_law_names (hr.mono (by decide)) (qa_cons (qp_var 1) (qa_cons ((QE.v (qe_add (qv_int).p ((QE.v (qe_len g.len (qa_cons (qp_var 12) qa_nil)))).p))).p qa_nil))))
  (qss_cons (qs_set 5 sc_law.nd (QV.o (qv_tup (ql_cons (QE.v (qe_tuple g.tuple (qa_cons ((QE.v (qe_slice (qp_var 14) qi_none (qi_some qv_int)))).p qa_nil))) (ql_cons (QE.v (qe_tuple g.tuple (qa_cons ((QE.v (qe_lc (own := [("k", 13)]) rfl sc_law.nd (qf_range1 g.range (QE.v (qe_len g.len (qa_cons (qp_var 12) qa_nil)))) (blkOk_by (by rfl)) (fun _ _ _ _ _ => (qg_name 13 sc_law.nd)) (fun _ _ _ _ _ => qts_nil) (fun _ _ _ _ _ => (qv_tup (ql_cons (qv_ix (qp_var 14) ((QE.v (qe_add (qv_int).p (qp_var 13)))).p) (ql_cons (qv_ix ((qv_ix (qp_var 12) (qp_var 13))).p (qv_int).p) (ql_cons (qv_ix ((qv_ix (qp_var 12) (qp_var 13))).p (qv_int).p) ql_nil)))))))).p qa_nil))) ql_nil)))))
  (qss_one (qs_if (qt_not (qt_call (QE.v (qe_call h_law_holds (hr.mono (by decide)) (qa_cons (qp_var 1) (qa_cons (qp_var 5) (qa_cons ((qv_tup ql_nil)).p (qa_cons ((qv_ix (qp_var 11) (qv_int).p)).p (qa_cons ((qv_ix (qp_var 11) (qv_int).p)).p (qa_cons ((QE.v (qe_min rfl g.min (qa_cons (qp_var 10) qa_nil)))).p (qa_cons (qp_var 3) qa_nil))))))))))) (qss_one (qs_ret (QV.o qv_bl))) qss_nil))))))))) qss_nil)
  (qss_one (qs_ret (QV.o (qv_and (qv_gt ((qv_ix (qp_var 3) (qv_int).p)).p (qv_int).p) (qv_one (qv_gt ((qv_ix (qp_var 3) (qv_int).p)).p (qv_int).p)))))))))))))))

theorem rT_eq : r_law = rT0 := by
  unfold r_law rT0 rT1 rT2 rTf rTl rTm rTn rTo rTw rW0 rW1 rW2 rW3 rW4 rTe
  rfl
theorem m_law (os : List O) (Q : O → List O → Prop) (h : sp_law os Q) : Ends r_law n_law os Q := by
  obtain ⟨script, rfl, hs, q⟩ := h
  rw [show Ends r_law = Ends rT0 from by rw [rT_eq]]
  walk_at "wh"
  refine ⟨script, rfl, hs, fun p hp => ?_⟩
  obtain ⟨a, b, rfl, hp⟩ := hp
  walk_at "wh"
  refine ⟨a, b, 7, rfl, hp, by decide, by decide, fun x a1 b1 hx hp1 => ?_⟩
  walk_at "go"
  all_goals first | decide | trivial | skip
  refine pt1 hp1 fun a b t0 t1 hp hB => ?_
  refine pt2 hp hB fun a b t0 t1 o5 o6 o7 hp g0 g1 hB => ?_
  refine ptf hp hB (fun E' a b t0 t1 o5 o6 o7 o8 o9 hp hB q' => ?_) fun a b t0' t1' o5 o6 o7 o8 o9 hp k0 k1 hB => ?_
  · refine ptl hp fun a b ns L hp h2 h8 hl hL => ?_
    refine ptm h2 ?_
    refine ptn hp h2 h8 hl fun a b bl m e hp hbl hbx hm he hme => ?_
    exact pto hp hB h2 h8 hl hL hbl hbx hm he hme fun a b t0' t1' hp g0 g1 g2 => q' _ _ _ _ _ _ _ _ hp g0 g1 g2
  · refine ptw _ rfl ?_ (pte (by omega) (by omega) q)
    refine pw0 hp hB fun a b m0 m1 m2 m3 c0 c1 c2 hp k0 k1 k2 n0 n1 n2 n3 h01 h02 h03 h12 h13 h23 => ?_
    refine pw1 hp hB k0 k1 k2 n0 n1 n2 n3 h01 h02 h03 h12 h13 h23 fun o13 => ?_
    refine pw2 hp hB k0 k1 k2 n0 n1 n2 n3 h01 h02 h03 h12 h13 h23 fun a b ord Ps o13 hp hPl hP4 hord hPo hT => ?_
    refine pw3 hp hB hPl hP4 n0 n3 hord hPo hT h01 h02 h03 h12 h13 h23 fun a b ns L o13 o14 hp hns hl hL hTL => ?_
    exact pw4 hp hB hns hl hL n0 n3 hord hTL h01 h02 h03 h12 h13 h23 fun a b t0'' t1'' hp g0 g1 => pte (by omega) (by omega) q
theorem f_law {P : Program} {w : World} {K : Fg} {mg : Str → Option Value} {base : Heap} {f : Addr} {fd : FuncData} (g : Gs K mg) (h_law_pool : Has P w K mg base "_law_pool" ["script"] 1 sp_law_pool) (h_law_draw : Has P w K mg base "_law_draw" ["pool", "many"] 1 sp_law_draw) (h_law_order : Has P w K mg base "_law_order" ["pool", "many"] 2 sp_law_order) (h_law_names : Has P w K mg base "_law_names" ["pool", "many"] 2 sp_law_names) (h_law_levels : Has P w K mg base "_law_levels" ["pool", "kind", "size", "most"] 3 sp_law_levels) (h_law_blanks : Has P w K mg base "_law_blanks" ["pool", "levels", "part"] 2 sp_law_blanks) (h_law_two : Has P w K mg base "_law_two" ["pool", "levels"] 2 sp_law_two) (h_law_least : Has P w K mg base "_law_least" ["levels", "blanks", "mark", "other"] 2 sp_law_least) (h_law_crossed : Has P w K mg base "_law_crossed" ["pool"] 3 sp_law_crossed) (h_law_holds : Has P w K mg base "_law_holds" ["pool", "levels", "blanks", "mark", "other", "least", "tally"] 6 sp_law_holds) (F : Fun K "law" "law" s_law f fd) : FnOk P w K mg base CX0 7 f fd ["script"] (SpOf K sp_law) :=
  fn_ok F sc_law [] (fun cdv A outer s H E hr => q_law g h_law_pool h_law_draw h_law_order h_law_names h_law_levels h_law_blanks h_law_two h_law_least h_law_crossed h_law_holds cdv A outer s H E hr) (by walk_at "len") (by walk_at "keep") m_law

end K76
set_option Elab.async false
set_option linter.all false
set_option maxRecDepth 100000
set_option maxHeartbeats 1000000
set_option exponentiation.threshold 20000
set_option pp.deepTerms false
set_option pp.maxSteps 500
namespace K76
open PySem PySem.Spec PyProof.Rows L2 Pf

/-! ### what the top has written -/
theorem vals_two {a b : Int} {t0 t1 : Nat} : Vals [V.int a, V.int b] [Value.int a t0, Value.int b t1] := .cons ⟨t0, rfl⟩ (.cons ⟨t1, rfl⟩ .nil)
theorem glob2 {K : Fg} {h : Heap} {mg : Str → Option Value} (X : K.In h) (G : h.Ns mainGlobals mg) {x : Str} {t : Addr} {a b : Int} {t0 t1 n : Nat} {sl : Array (Option Value)} (e : PySem.W.nsIn K mainGlobals x = some (some (.ref t)))
    (l : K.lookup t = some ⟨.type "tuple", none, .seq #[.int a t0, .int b t1] n, sl⟩) : GlobD K mg x (.tuple [.int a, .int b]) :=
  ⟨.ref t, .ref t, PySem.W.mg_of X G e, rfl, .tup (.inr ⟨_, _, _, l, rfl, rfl, rfl, (by decide : 2 ≤ sizeLine), vals_two⟩) (.cons (.int a) (.cons (.int b) .nil))⟩
/-- no list is among the module's own things -/
def noList (K : Fg) : Bool := K.all fun p => !decide (p.2.cls = .type "list")
theorem no_list {K : Fg} (h : noList K = true) : ∀ {a : Addr} {o : Obj}, K.lookup a = some o → o.cls ≠ .type "list" := by
  unfold noList at h
  induction K with
  | nil => intro a o e; cases e
  | cons p K ih =>
    intro a o e
    rw [List.all_cons, Bool.and_eq_true] at h
    obtain ⟨b, ob⟩ := p
    rw [List.lookup_cons] at e
    cases q : (a == b) with
    | true =>
      rw [q] at e
      have eo : ob = o := Option.some.inj e
      subst eo
      intro z
      have := h.1
      simp [z] at this
    | false =>
      rw [q] at e
      exact ih h.2 e
theorem script_sp {K : Fg} (nl : noList K = true) {H : Hp} {a : Addr} {ns : List Int} (hl : ns.length ≤ 63) (hS : SqL K H a (ns.map V.int)) : SpOf K sp_law [.ref a] H (fun v _ => v = .bl true) fun _ _ _ => False := by
  rcases hS with hS | ⟨o, its, n, h1, h2, _⟩
  · refine ⟨[.d (.list (zD ns))], H, fun _ => none, ⟨[], .one (fp1 := []) ⟨.lst hS (ints_rps ns), rfl⟩ .nil, fun _ _ z => z, fun _ _ z => (nomatch z), fun _ _ => rfl, List.nodup_nil, (by simp), (by simp)⟩, ns, rfl, hl, fun v G' H' _ r => ?_⟩
    obtain ⟨fp, fpv, _, ⟨h, _⟩, _⟩ := r
    cases h
    rfl
  · exact absurd h2 (no_list nl h1)
theorem walk_mine {l : PySem.W.OpenLaw} {n k : Nat} {q : Program} {loose : List Str} {XP : (Str → Option Value) → Heap → Prop} {YP : World → Heap → Prop} {d : DefRec} {K : Params → Fg} {x : Str}
    (hn : l.most = some n) (hn2 : n ≤ sizeLine) (h63 : n ≤ 63) (hdf : d.params.defaults = []) (hr : Room k callerA) (hY : ∀ (w : World) (h : Heap), YP w h → (K w.params).In h) (nl : ∀ p, noList (K p) = true)
    (F : ∀ (w : World) (mg : Str → Option Value) (fa : Addr) (h : Heap), (K w.params).In h → h.Ns mainGlobals mg → mg d.name = some (.ref fa) →
      ∃ fd : FuncData, (∀ (s : Shared) (u : Value), BindsTo s fd ⟨[u], []⟩ [(x, u)]) ∧ ∀ base : Heap, (K w.params).In base → base.Ns mainGlobals mg → FnOk l.prog w (K w.params) mg base CX0 k fa fd [x] (SpOf (K w.params) sp_law)) :
    PySem.W.WalkO q loose XP YP l.row.toRowW d [] (fun f vs => PySem.call f vs) :=
  walk_of (K := K) (CX := fun _ => CX0) (sp := fun w => SpOf (K w.params) sp_law) hn hn2 hdf hr hY F (fun w H a ns hl _ hS => script_sp (nl _) (Nat.le_trans hl h63) hS) fun _ _ _ _ _ h => h
theorem all_mk {l : PySem.W.OpenLaw} {w : World} {K : Fg} {h : Heap} {mg : Str → Option Value} {fa : Addr} {tz : Addr} {tn1 tn2 ts1 : Nat} {tl1 : Array (Option Value)} (X : K.In h) (G : h.Ns mainGlobals mg) (hfa : mg "law" = some (.ref fa))
    {f0 : Addr} {od0 an0 : Option Addr} {sl0 : Array (Option Value)} {oc0 kV0 dc0 pm0 cd0 ct0 : Value}
    {f1 : Addr} {od1 an1 : Option Addr} {sl1 : Array (Option Value)} {oc1 kV1 dc1 pm1 cd1 ct1 : Value}
    {f2 : Addr} {od2 an2 : Option Addr} {sl2 : Array (Option Value)} {oc2 kV2 dc2 pm2 cd2 ct2 : Value}
    {f3 : Addr} {od3 an3 : Option Addr} {sl3 : Array (Option Value)} {oc3 kV3 dc3 pm3 cd3 ct3 : Value}
    {f4 : Addr} {od4 an4 : Option Addr} {sl4 : Array (Option Value)} {oc4 kV4 dc4 pm4 cd4 ct4 : Value}
    {f5 : Addr} {od5 an5 : Option Addr} {sl5 : Array (Option Value)} {oc5 kV5 dc5 pm5 cd5 ct5 : Value}
    {f6 : Addr} {od6 an6 : Option Addr} {sl6 : Array (Option Value)} {oc6 kV6 dc6 pm6 cd6 ct6 : Value}
    {f7 : Addr} {od7 an7 : Option Addr} {sl7 : Array (Option Value)} {oc7 kV7 dc7 pm7 cd7 ct7 : Value}
    {f8 : Addr} {od8 an8 : Option Addr} {sl8 : Array (Option Value)} {oc8 kV8 dc8 pm8 cd8 ct8 : Value}
    {f9 : Addr} {od9 an9 : Option Addr} {sl9 : Array (Option Value)} {oc9 kV9 dc9 pm9 cd9 ct9 : Value}
    {f10 : Addr} {od10 an10 : Option Addr} {sl10 : Array (Option Value)} {oc10 kV10 dc10 pm10 cd10 ct10 : Value}
    {f11 : Addr} {od11 an11 : Option Addr} {sl11 : Array (Option Value)} {oc11 kV11 dc11 pm11 cd11 ct11 : Value}
    {f12 : Addr} {od12 an12 : Option Addr} {sl12 : Array (Option Value)} {oc12 kV12 dc12 pm12 cd12 ct12 : Value}
    {f13 : Addr} {od13 an13 : Option Addr} {sl13 : Array (Option Value)} {oc13 kV13 dc13 pm13 cd13 ct13 : Value}
    {f14 : Addr} {od14 an14 : Option Addr} {sl14 : Array (Option Value)} {oc14 kV14 dc14 pm14 cd14 ct14 : Value}
    {f15 : Addr} {od15 an15 : Option Addr} {sl15 : Array (Option Value)} {oc15 kV15 dc15 pm15 cd15 ct15 : Value}
    {f16 : Addr} {od16 an16 : Option Addr} {sl16 : Array (Option Value)} {oc16 kV16 dc16 pm16 cd16 ct16 : Value}
    {f17 : Addr} {od17 an17 : Option Addr} {sl17 : Array (Option Value)} {oc17 kV17 dc17 pm17 cd17 ct17 : Value}
    {f18 : Addr} {od18 an18 : Option Addr} {sl18 : Array (Option Value)} {oc18 kV18 dc18 pm18 cd18 ct18 : Value}
    {f19 : Addr} {od19 an19 : Option Addr} {sl19 : Array (Option Value)} {oc19 kV19 dc19 pm19 cd19 ct19 : Value}
    {f20 : Addr} {od20 an20 : Option Addr} {sl20 : Array (Option Value)} {oc20 kV20 dc20 pm20 cd20 ct20 : Value}
    {f21 : Addr} {od21 an21 : Option Addr} {sl21 : Array (Option Value)} {oc21 kV21 dc21 pm21 cd21 ct21 : Value}
    {f22 : Addr} {od22 an22 : Option Addr} {sl22 : Array (Option Value)} {oc22 kV22 dc22 pm22 cd22 ct22 : Value}
    {f23 : Addr} {od23 an23 : Option Addr} {sl23 : Array (Option Value)} {oc23 kV23 dc23 pm23 cd23 ct23 : Value}
    {f24 : Addr} {od24 an24 : Option Addr} {sl24 : Array (Option Value)} {oc24 kV24 dc24 pm24 cd24 ct24 : Value}
    {f25 : Addr} {od25 an25 : Option Addr} {sl25 : Array (Option Value)} {oc25 kV25 dc25 pm25 cd25 ct25 : Value}
    {f26 : Addr} {od26 an26 : Option Addr} {sl26 : Array (Option Value)} {oc26 kV26 dc26 pm26 cd26 ct26 : Value}
    {f27 : Addr} {od27 an27 : Option Addr} {sl27 : Array (Option Value)} {oc27 kV27 dc27 pm27 cd27 ct27 : Value}
    {f28 : Addr} {od28 an28 : Option Addr} {sl28 : Array (Option Value)} {oc28 kV28 dc28 pm28 cd28 ct28 : Value}
    {f29 : Addr} {od29 an29 : Option Addr} {sl29 : Array (Option Value)} {oc29 kV29 dc29 pm29 cd29 ct29 : Value}
    {f30 : Addr} {od30 an30 : Option Addr} {sl30 : Array (Option Value)} {oc30 kV30 dc30 pm30 cd30 ct30 : Value}
    {f31 : Addr} {od31 an31 : Option Addr} {sl31 : Array (Option Value)} {oc31 kV31 dc31 pm31 cd31 ct31 : Value}
    {f32 : Addr} {od32 an32 : Option Addr} {sl32 : Array (Option Value)} {oc32 kV32 dc32 pm32 cd32 ct32 : Value}
    {f33 : Addr} {od33 an33 : Option Addr} {sl33 : Array (Option Value)} {oc33 kV33 dc33 pm33 cd33 ct33 : Value}
    {f34 : Addr} {od34 an34 : Option Addr} {sl34 : Array (Option Value)} {oc34 kV34 dc34 pm34 cd34 ct34 : Value}
    {f35 : Addr} {od35 an35 : Option Addr} {sl35 : Array (Option Value)} {oc35 kV35 dc35 pm35 cd35 ct35 : Value}
    {f36 : Addr} {od36 an36 : Option Addr} {sl36 : Array (Option Value)} {oc36 kV36 dc36 pm36 cd36 ct36 : Value}
    {f37 : Addr} {od37 an37 : Option Addr} {sl37 : Array (Option Value)} {oc37 kV37 dc37 pm37 cd37 ct37 : Value}
    {f38 : Addr} {od38 an38 : Option Addr} {sl38 : Array (Option Value)} {oc38 kV38 dc38 pm38 cd38 ct38 : Value}
    {f39 : Addr} {od39 an39 : Option Addr} {sl39 : Array (Option Value)} {oc39 kV39 dc39 pm39 cd39 ct39 : Value}
    {f40 : Addr} {od40 an40 : Option Addr} {sl40 : Array (Option Value)} {oc40 kV40 dc40 pm40 cd40 ct40 : Value}
    (a0 : PySem.W.nsIn K mainGlobals "is_integer" = some (some (.ref f0))) (l0 : K.lookup f0 = some ⟨oc0, od0, .func (PySem.W.fnOf "is_integer" "is_integer" (defArgs s_is_integer) (defBody s_is_integer) (defScope s_is_integer) .none kV0 dc0 pm0 an0 cd0 ct0), sl0⟩) (c0 : PySem.W.codeIn K cd0 "is_integer" = true) (k0 : PySem.W.keepIn K (.ref f0) = true)
    (a1 : PySem.W.nsIn K mainGlobals "integer_within" = some (some (.ref f1))) (l1 : K.lookup f1 = some ⟨oc1, od1, .func (PySem.W.fnOf "integer_within" "integer_within" (defArgs s_integer_within) (defBody s_integer_within) (defScope s_integer_within) .none kV1 dc1 pm1 an1 cd1 ct1), sl1⟩) (c1 : PySem.W.codeIn K cd1 "integer_within" = true) (k1 : PySem.W.keepIn K (.ref f1) = true)
    (a2 : PySem.W.nsIn K mainGlobals "tuple_of" = some (some (.ref f2))) (l2 : K.lookup f2 = some ⟨oc2, od2, .func (PySem.W.fnOf "tuple_of" "tuple_of" (defArgs s_tuple_of) (defBody s_tuple_of) (defScope s_tuple_of) .none kV2 dc2 pm2 an2 cd2 ct2), sl2⟩) (c2 : PySem.W.codeIn K cd2 "tuple_of" = true) (k2 : PySem.W.keepIn K (.ref f2) = true)
    (a3 : PySem.W.nsIn K mainGlobals "first_flow" = some (some (.ref f3))) (l3 : K.lookup f3 = some ⟨oc3, od3, .func (PySem.W.fnOf "first_flow" "first_flow" (defArgs s_first_flow) (defBody s_first_flow) (defScope s_first_flow) .none kV3 dc3 pm3 an3 cd3 ct3), sl3⟩) (c3 : PySem.W.codeIn K cd3 "first_flow" = true) (k3 : PySem.W.keepIn K (.ref f3) = true)
    (a4 : PySem.W.nsIn K mainGlobals "go_on" = some (some (.ref f4))) (l4 : K.lookup f4 = some ⟨oc4, od4, .func (PySem.W.fnOf "go_on" "go_on" (defArgs s_go_on) (defBody s_go_on) (defScope s_go_on) .none kV4 dc4 pm4 an4 cd4 ct4), sl4⟩) (c4 : PySem.W.codeIn K cd4 "go_on" = true) (k4 : PySem.W.keepIn K (.ref f4) = true)
    (a5 : PySem.W.nsIn K mainGlobals "search" = some (some (.ref f5))) (l5 : K.lookup f5 = some ⟨oc5, od5, .func (PySem.W.fnOf "search" "search" (defArgs s_search) (defBody s_search) (defScope s_search) .none kV5 dc5 pm5 an5 cd5 ct5), sl5⟩) (c5 : PySem.W.codeIn K cd5 "search" = true) (k5 : PySem.W.keepIn K (.ref f5) = true)
    (a6 : PySem.W.nsIn K mainGlobals "flow_between" = some (some (.ref f6))) (l6 : K.lookup f6 = some ⟨oc6, od6, .func (PySem.W.fnOf "flow_between" "flow_between" (defArgs s_flow_between) (defBody s_flow_between) (defScope s_flow_between) .none kV6 dc6 pm6 an6 cd6 ct6), sl6⟩) (c6 : PySem.W.codeIn K cd6 "flow_between" = true) (k6 : PySem.W.keepIn K (.ref f6) = true)
    (a7 : PySem.W.nsIn K mainGlobals "one_way" = some (some (.ref f7))) (l7 : K.lookup f7 = some ⟨oc7, od7, .func (PySem.W.fnOf "one_way" "one_way" (defArgs s_one_way) (defBody s_one_way) (defScope s_one_way) .none kV7 dc7 pm7 an7 cd7 ct7), sl7⟩) (c7 : PySem.W.codeIn K cd7 "one_way" = true) (k7 : PySem.W.keepIn K (.ref f7) = true)
    (a8 : PySem.W.nsIn K mainGlobals "ways_between" = some (some (.ref f8))) (l8 : K.lookup f8 = some ⟨oc8, od8, .func (PySem.W.fnOf "ways_between" "ways_between" (defArgs s_ways_between) (defBody s_ways_between) (defScope s_ways_between) .none kV8 dc8 pm8 an8 cd8 ct8), sl8⟩) (c8 : PySem.W.codeIn K cd8 "ways_between" = true) (k8 : PySem.W.keepIn K (.ref f8) = true)
    (a9 : PySem.W.nsIn K mainGlobals "is_step" = some (some (.ref f9))) (l9 : K.lookup f9 = some ⟨oc9, od9, .func (PySem.W.fnOf "is_step" "is_step" (defArgs s_is_step) (defBody s_is_step) (defScope s_is_step) .none kV9 dc9 pm9 an9 cd9 ct9), sl9⟩) (c9 : PySem.W.codeIn K cd9 "is_step" = true) (k9 : PySem.W.keepIn K (.ref f9) = true)
    (a10 : PySem.W.nsIn K mainGlobals "is_way" = some (some (.ref f10))) (l10 : K.lookup f10 = some ⟨oc10, od10, .func (PySem.W.fnOf "is_way" "is_way" (defArgs s_is_way) (defBody s_is_way) (defScope s_is_way) .none kV10 dc10 pm10 an10 cd10 ct10), sl10⟩) (c10 : PySem.W.codeIn K cd10 "is_way" = true) (k10 : PySem.W.keepIn K (.ref f10) = true)
    (a11 : PySem.W.nsIn K mainGlobals "is_ways" = some (some (.ref f11))) (l11 : K.lookup f11 = some ⟨oc11, od11, .func (PySem.W.fnOf "is_ways" "is_ways" (defArgs s_is_ways) (defBody s_is_ways) (defScope s_is_ways) .none kV11 dc11 pm11 an11 cd11 ct11), sl11⟩) (c11 : PySem.W.codeIn K cd11 "is_ways" = true) (k11 : PySem.W.keepIn K (.ref f11) = true)
    (a12 : PySem.W.nsIn K mainGlobals "least_cut" = some (some (.ref f12))) (l12 : K.lookup f12 = some ⟨oc12, od12, .func (PySem.W.fnOf "least_cut" "least_cut" (defArgs s_least_cut) (defBody s_least_cut) (defScope s_least_cut) .none kV12 dc12 pm12 an12 cd12 ct12), sl12⟩) (c12 : PySem.W.codeIn K cd12 "least_cut" = true) (k12 : PySem.W.keepIn K (.ref f12) = true)
    (a13 : PySem.W.nsIn K mainGlobals "quotient_of" = some (some (.ref f13))) (l13 : K.lookup f13 = some ⟨oc13, od13, .func (PySem.W.fnOf "quotient_of" "quotient_of" (defArgs s_quotient_of) (defBody s_quotient_of) (defScope s_quotient_of) .none kV13 dc13 pm13 an13 cd13 ct13), sl13⟩) (c13 : PySem.W.codeIn K cd13 "quotient_of" = true) (k13 : PySem.W.keepIn K (.ref f13) = true)
    (a14 : PySem.W.nsIn K mainGlobals "plus_of" = some (some (.ref f14))) (l14 : K.lookup f14 = some ⟨oc14, od14, .func (PySem.W.fnOf "plus_of" "plus_of" (defArgs s_plus_of) (defBody s_plus_of) (defScope s_plus_of) .none kV14 dc14 pm14 an14 cd14 ct14), sl14⟩) (c14 : PySem.W.codeIn K cd14 "plus_of" = true) (k14 : PySem.W.keepIn K (.ref f14) = true)
    (a15 : PySem.W.nsIn K mainGlobals "is_below" = some (some (.ref f15))) (l15 : K.lookup f15 = some ⟨oc15, od15, .func (PySem.W.fnOf "is_below" "is_below" (defArgs s_is_below) (defBody s_is_below) (defScope s_is_below) .none kV15 dc15 pm15 an15 cd15 ct15), sl15⟩) (c15 : PySem.W.codeIn K cd15 "is_below" = true) (k15 : PySem.W.keepIn K (.ref f15) = true)
    (a16 : PySem.W.nsIn K mainGlobals "scaled_by" = some (some (.ref f16))) (l16 : K.lookup f16 = some ⟨oc16, od16, .func (PySem.W.fnOf "scaled_by" "scaled_by" (defArgs s_scaled_by) (defBody s_scaled_by) (defScope s_scaled_by) .none kV16 dc16 pm16 an16 cd16 ct16), sl16⟩) (c16 : PySem.W.codeIn K cd16 "scaled_by" = true) (k16 : PySem.W.keepIn K (.ref f16) = true)
    (a17 : PySem.W.nsIn K mainGlobals "added" = some (some (.ref f17))) (l17 : K.lookup f17 = some ⟨oc17, od17, .func (PySem.W.fnOf "added" "added" (defArgs s_added) (defBody s_added) (defScope s_added) .none kV17 dc17 pm17 an17 cd17 ct17), sl17⟩) (c17 : PySem.W.codeIn K cd17 "added" = true) (k17 : PySem.W.keepIn K (.ref f17) = true)
    (a18 : PySem.W.nsIn K mainGlobals "most_often" = some (some (.ref f18))) (l18 : K.lookup f18 = some ⟨oc18, od18, .func (PySem.W.fnOf "most_often" "most_often" (defArgs s_most_often) (defBody s_most_often) (defScope s_most_often) .none kV18 dc18 pm18 an18 cd18 ct18), sl18⟩) (c18 : PySem.W.codeIn K cd18 "most_often" = true) (k18 : PySem.W.keepIn K (.ref f18) = true)
    (a19 : PySem.W.nsIn K mainGlobals "way_estimates" = some (some (.ref f19))) (l19 : K.lookup f19 = some ⟨oc19, od19, .func (PySem.W.fnOf "way_estimates" "way_estimates" (defArgs s_way_estimates) (defBody s_way_estimates) (defScope s_way_estimates) .none kV19 dc19 pm19 an19 cd19 ct19), sl19⟩) (c19 : PySem.W.codeIn K cd19 "way_estimates" = true) (k19 : PySem.W.keepIn K (.ref f19) = true)
    (a20 : PySem.W.nsIn K mainGlobals "way_vote" = some (some (.ref f20))) (l20 : K.lookup f20 = some ⟨oc20, od20, .func (PySem.W.fnOf "way_vote" "way_vote" (defArgs s_way_vote) (defBody s_way_vote) (defScope s_way_vote) .none kV20 dc20 pm20 an20 cd20 ct20), sl20⟩) (c20 : PySem.W.codeIn K cd20 "way_vote" = true) (k20 : PySem.W.keepIn K (.ref f20) = true)
    (a21 : PySem.W.nsIn K mainGlobals "_law_pool" = some (some (.ref f21))) (l21 : K.lookup f21 = some ⟨oc21, od21, .func (PySem.W.fnOf "_law_pool" "_law_pool" (defArgs s_law_pool) (defBody s_law_pool) (defScope s_law_pool) .none kV21 dc21 pm21 an21 cd21 ct21), sl21⟩) (c21 : PySem.W.codeIn K cd21 "_law_pool" = true) (k21 : PySem.W.keepIn K (.ref f21) = true)
    (a22 : PySem.W.nsIn K mainGlobals "_law_draw" = some (some (.ref f22))) (l22 : K.lookup f22 = some ⟨oc22, od22, .func (PySem.W.fnOf "_law_draw" "_law_draw" (defArgs s_law_draw) (defBody s_law_draw) (defScope s_law_draw) .none kV22 dc22 pm22 an22 cd22 ct22), sl22⟩) (c22 : PySem.W.codeIn K cd22 "_law_draw" = true) (k22 : PySem.W.keepIn K (.ref f22) = true)
    (a23 : PySem.W.nsIn K mainGlobals "_law_order" = some (some (.ref f23))) (l23 : K.lookup f23 = some ⟨oc23, od23, .func (PySem.W.fnOf "_law_order" "_law_order" (defArgs s_law_order) (defBody s_law_order) (defScope s_law_order) .none kV23 dc23 pm23 an23 cd23 ct23), sl23⟩) (c23 : PySem.W.codeIn K cd23 "_law_order" = true) (k23 : PySem.W.keepIn K (.ref f23) = true)
    (a24 : PySem.W.nsIn K mainGlobals "_law_same" = some (some (.ref f24))) (l24 : K.lookup f24 = some ⟨oc24, od24, .func (PySem.W.fnOf "_law_same" "_law_same" (defArgs s_law_same) (defBody s_law_same) (defScope s_law_same) .none kV24 dc24 pm24 an24 cd24 ct24), sl24⟩) (c24 : PySem.W.codeIn K cd24 "_law_same" = true) (k24 : PySem.W.keepIn K (.ref f24) = true)
    (a25 : PySem.W.nsIn K mainGlobals "_law_names" = some (some (.ref f25))) (l25 : K.lookup f25 = some ⟨oc25, od25, .func (PySem.W.fnOf "_law_names" "_law_names" (defArgs s_law_names) (defBody s_law_names) (defScope s_law_names) .none kV25 dc25 pm25 an25 cd25 ct25), sl25⟩) (c25 : PySem.W.codeIn K cd25 "_law_names" = true) (k25 : PySem.W.keepIn K (.ref f25) = true)
    (a26 : PySem.W.nsIn K mainGlobals "_law_pairs" = some (some (.ref f26))) (l26 : K.lookup f26 = some ⟨oc26, od26, .func (PySem.W.fnOf "_law_pairs" "_law_pairs" (defArgs s_law_pairs) (defBody s_law_pairs) (defScope s_law_pairs) .none kV26 dc26 pm26 an26 cd26 ct26), sl26⟩) (c26 : PySem.W.codeIn K cd26 "_law_pairs" = true) (k26 : PySem.W.keepIn K (.ref f26) = true)
    (a27 : PySem.W.nsIn K mainGlobals "_law_levels" = some (some (.ref f27))) (l27 : K.lookup f27 = some ⟨oc27, od27, .func (PySem.W.fnOf "_law_levels" "_law_levels" (defArgs s_law_levels) (defBody s_law_levels) (defScope s_law_levels) .none kV27 dc27 pm27 an27 cd27 ct27), sl27⟩) (c27 : PySem.W.codeIn K cd27 "_law_levels" = true) (k27 : PySem.W.keepIn K (.ref f27) = true)
    (a28 : PySem.W.nsIn K mainGlobals "_law_blanks" = some (some (.ref f28))) (l28 : K.lookup f28 = some ⟨oc28, od28, .func (PySem.W.fnOf "_law_blanks" "_law_blanks" (defArgs s_law_blanks) (defBody s_law_blanks) (defScope s_law_blanks) .none kV28 dc28 pm28 an28 cd28 ct28), sl28⟩) (c28 : PySem.W.codeIn K cd28 "_law_blanks" = true) (k28 : PySem.W.keepIn K (.ref f28) = true)
    (a29 : PySem.W.nsIn K mainGlobals "_law_two" = some (some (.ref f29))) (l29 : K.lookup f29 = some ⟨oc29, od29, .func (PySem.W.fnOf "_law_two" "_law_two" (defArgs s_law_two) (defBody s_law_two) (defScope s_law_two) .none kV29 dc29 pm29 an29 cd29 ct29), sl29⟩) (c29 : PySem.W.codeIn K cd29 "_law_two" = true) (k29 : PySem.W.keepIn K (.ref f29) = true)
    (a30 : PySem.W.nsIn K mainGlobals "_law_quotient" = some (some (.ref f30))) (l30 : K.lookup f30 = some ⟨oc30, od30, .func (PySem.W.fnOf "_law_quotient" "_law_quotient" (defArgs s_law_quotient) (defBody s_law_quotient) (defScope s_law_quotient) .none kV30 dc30 pm30 an30 cd30 ct30), sl30⟩) (c30 : PySem.W.codeIn K cd30 "_law_quotient" = true) (k30 : PySem.W.keepIn K (.ref f30) = true)
    (a31 : PySem.W.nsIn K mainGlobals "_law_plus" = some (some (.ref f31))) (l31 : K.lookup f31 = some ⟨oc31, od31, .func (PySem.W.fnOf "_law_plus" "_law_plus" (defArgs s_law_plus) (defBody s_law_plus) (defScope s_law_plus) .none kV31 dc31 pm31 an31 cd31 ct31), sl31⟩) (c31 : PySem.W.codeIn K cd31 "_law_plus" = true) (k31 : PySem.W.keepIn K (.ref f31) = true)
    (a32 : PySem.W.nsIn K mainGlobals "_law_count" = some (some (.ref f32))) (l32 : K.lookup f32 = some ⟨oc32, od32, .func (PySem.W.fnOf "_law_count" "_law_count" (defArgs s_law_count) (defBody s_law_count) (defScope s_law_count) .none kV32 dc32 pm32 an32 cd32 ct32), sl32⟩) (c32 : PySem.W.codeIn K cd32 "_law_count" = true) (k32 : PySem.W.keepIn K (.ref f32) = true)
    (a33 : PySem.W.nsIn K mainGlobals "_law_least" = some (some (.ref f33))) (l33 : K.lookup f33 = some ⟨oc33, od33, .func (PySem.W.fnOf "_law_least" "_law_least" (defArgs s_law_least) (defBody s_law_least) (defScope s_law_least) .none kV33 dc33 pm33 an33 cd33 ct33), sl33⟩) (c33 : PySem.W.codeIn K cd33 "_law_least" = true) (k33 : PySem.W.keepIn K (.ref f33) = true)
    (a34 : PySem.W.nsIn K mainGlobals "_law_is_ways" = some (some (.ref f34))) (l34 : K.lookup f34 = some ⟨oc34, od34, .func (PySem.W.fnOf "_law_is_ways" "_law_is_ways" (defArgs s_law_is_ways) (defBody s_law_is_ways) (defScope s_law_is_ways) .none kV34 dc34 pm34 an34 cd34 ct34), sl34⟩) (c34 : PySem.W.codeIn K cd34 "_law_is_ways" = true) (k34 : PySem.W.keepIn K (.ref f34) = true)
    (a35 : PySem.W.nsIn K mainGlobals "_law_is_cut" = some (some (.ref f35))) (l35 : K.lookup f35 = some ⟨oc35, od35, .func (PySem.W.fnOf "_law_is_cut" "_law_is_cut" (defArgs s_law_is_cut) (defBody s_law_is_cut) (defScope s_law_is_cut) .none kV35 dc35 pm35 an35 cd35 ct35), sl35⟩) (c35 : PySem.W.codeIn K cd35 "_law_is_cut" = true) (k35 : PySem.W.keepIn K (.ref f35) = true)
    (a36 : PySem.W.nsIn K mainGlobals "_law_estimates" = some (some (.ref f36))) (l36 : K.lookup f36 = some ⟨oc36, od36, .func (PySem.W.fnOf "_law_estimates" "_law_estimates" (defArgs s_law_estimates) (defBody s_law_estimates) (defScope s_law_estimates) .none kV36 dc36 pm36 an36 cd36 ct36), sl36⟩) (c36 : PySem.W.codeIn K cd36 "_law_estimates" = true) (k36 : PySem.W.keepIn K (.ref f36) = true)
    (a37 : PySem.W.nsIn K mainGlobals "_law_lies" = some (some (.ref f37))) (l37 : K.lookup f37 = some ⟨oc37, od37, .func (PySem.W.fnOf "_law_lies" "_law_lies" (defArgs s_law_lies) (defBody s_law_lies) (defScope s_law_lies) .none kV37 dc37 pm37 an37 cd37 ct37), sl37⟩) (c37 : PySem.W.codeIn K cd37 "_law_lies" = true) (k37 : PySem.W.keepIn K (.ref f37) = true)
    (a38 : PySem.W.nsIn K mainGlobals "_law_crossed" = some (some (.ref f38))) (l38 : K.lookup f38 = some ⟨oc38, od38, .func (PySem.W.fnOf "_law_crossed" "_law_crossed" (defArgs s_law_crossed) (defBody s_law_crossed) (defScope s_law_crossed) .none kV38 dc38 pm38 an38 cd38 ct38), sl38⟩) (c38 : PySem.W.codeIn K cd38 "_law_crossed" = true) (k38 : PySem.W.keepIn K (.ref f38) = true)
    (a39 : PySem.W.nsIn K mainGlobals "_law_holds" = some (some (.ref f39))) (l39 : K.lookup f39 = some ⟨oc39, od39, .func (PySem.W.fnOf "_law_holds" "_law_holds" (defArgs s_law_holds) (defBody s_law_holds) (defScope s_law_holds) .none kV39 dc39 pm39 an39 cd39 ct39), sl39⟩) (c39 : PySem.W.codeIn K cd39 "_law_holds" = true) (k39 : PySem.W.keepIn K (.ref f39) = true)
    (a40 : PySem.W.nsIn K mainGlobals "law" = some (some (.ref f40))) (l40 : K.lookup f40 = some ⟨oc40, od40, .func (PySem.W.fnOf "law" "law" (defArgs s_law) (defBody s_law) (defScope s_law) .none kV40 dc40 pm40 an40 cd40 ct40), sl40⟩) (c40 : PySem.W.codeIn K cd40 "law" = true) (k40 : PySem.W.keepIn K (.ref f40) = true)
    (z_len : PySem.W.nsIn K mainGlobals "len" = some none)
    (z_int : PySem.W.nsIn K mainGlobals "int" = some none)
    (z_abs : PySem.W.nsIn K mainGlobals "abs" = some none)
    (z_tuple : PySem.W.nsIn K mainGlobals "tuple" = some none)
    (z_list : PySem.W.nsIn K mainGlobals "list" = some none)
    (z_min : PySem.W.nsIn K mainGlobals "min" = some none)
    (z_all : PySem.W.nsIn K mainGlobals "all" = some none)
    (z_sorted : PySem.W.nsIn K mainGlobals "sorted" = some none)
    (z_str : PySem.W.nsIn K mainGlobals "str" = some none)
    (z_bool : PySem.W.nsIn K mainGlobals "bool" = some none)
    (z_set : PySem.W.nsIn K mainGlobals "set" = some none)
    (z_isinstance : PySem.W.nsIn K mainGlobals "isinstance" = some none)
    (z_range : PySem.W.nsIn K mainGlobals "range" = some none)
    (z_enumerate : PySem.W.nsIn K mainGlobals "enumerate" = some none)
    (z_gcd : PySem.W.nsIn K mainGlobals "gcd" = some (some (.builtin "math.gcd")))
    (a_z : PySem.W.nsIn K mainGlobals "ZERO" = some (some (.ref tz))) (l_z : K.lookup tz = some ⟨.type "tuple", none, .seq #[.int 0 tn1, .int 1 tn2] ts1, tl1⟩)
    :
    ∃ fd : FuncData, (∀ (s : Shared) (v : Value), BindsTo s fd ⟨[v], []⟩ [("script", v)]) ∧ ∀ base : Heap, K.In base → base.Ns mainGlobals mg → FnOk l.prog w K mg base CX0 7 fa fd ["script"] (SpOf K sp_law) := by
  have e := hfa.symm.trans (PySem.W.mg_of X G a40)
  cases e
  have g : Gs K mg := { len := PySem.W.mg_none_of X G z_len, int := PySem.W.mg_none_of X G z_int, abs := PySem.W.mg_none_of X G z_abs, tuple := PySem.W.mg_none_of X G z_tuple, list := PySem.W.mg_none_of X G z_list, min := PySem.W.mg_none_of X G z_min, all := PySem.W.mg_none_of X G z_all, sorted := PySem.W.mg_none_of X G z_sorted, str := PySem.W.mg_none_of X G z_str, bool := PySem.W.mg_none_of X G z_bool, set := PySem.W.mg_none_of X G z_set, isinstance := PySem.W.mg_none_of X G z_isinstance, range := PySem.W.mg_none_of X G z_range, enumerate := PySem.W.mg_none_of X G z_enumerate, gcd := PySem.W.mg_of X G z_gcd, zero := glob2 X G a_z l_z }
  refine ⟨PySem.W.fnOf "law" "law" (defArgs s_law) (defBody s_law) (defScope s_law) .none kV40 dc40 pm40 an40 cd40 ct40, fun s v => .of_eq rfl, fun base _ _ => ?_⟩
  have F0 := fun_mk (st := s_is_integer) l0 c0 k0
  have h_is_integer : Has l.prog w K mg base "is_integer" ["thing"] 1 sp_is_integer := ⟨⟨f0, _, PySem.W.mg_of X G a0, F0.kp, F0.binds (ps := ["thing"]) fun _ _ _ _ _ _ us hl => match us, hl with | [_], _ => rfl, f_is_integer g F0⟩, mono_is_integer⟩
  have F2 := fun_mk (st := s_tuple_of) l2 c2 k2
  have h_tuple_of : Has l.prog w K mg base "tuple_of" ["thing", "many"] 1 sp_tuple_of := ⟨⟨f2, _, PySem.W.mg_of X G a2, F2.kp, F2.binds (ps := ["thing", "many"]) fun _ _ _ _ _ _ us hl => match us, hl with | [_, _], _ => rfl, f_tuple_of g F2⟩, mono_tuple_of⟩
  have F3 := fun_mk (st := s_first_flow) l3 c3 k3
  have h_first_flow : Has l.prog w K mg base "first_flow" ["lines"] 1 sp_first_flow := ⟨⟨f3, _, PySem.W.mg_of X G a3, F3.kp, F3.binds (ps := ["lines"]) fun _ _ _ _ _ _ us hl => match us, hl with | [_], _ => rfl, f_first_flow g F3⟩, mono_first_flow⟩
  have F4 := fun_mk (st := s_go_on) l4 c4 k4
  have h_go_on : Has l.prog w K mg base "go_on" ["lines", "blanks", "flow", "place"] 1 sp_go_on := ⟨⟨f4, _, PySem.W.mg_of X G a4, F4.kp, F4.binds (ps := ["lines", "blanks", "flow", "place"]) fun _ _ _ _ _ _ us hl => match us, hl with | [_, _, _, _], _ => rfl, f_go_on g F4⟩, mono_go_on⟩
  have F7 := fun_mk (st := s_one_way) l7 c7 k7
  have h_one_way : Has l.prog w K mg base "one_way" ["lines", "flow", "begin", "end"] 1 sp_one_way := ⟨⟨f7, _, PySem.W.mg_of X G a7, F7.kp, F7.binds (ps := ["lines", "flow", "begin", "end"]) fun _ _ _ _ _ _ us hl => match us, hl with | [_, _, _, _], _ => rfl, f_one_way g F7⟩, mono_one_way⟩
  have F13 := fun_mk (st := s_quotient_of) l13 c13 k13
  have h_quotient_of : Has l.prog w K mg base "quotient_of" ["number", "other"] 1 sp_quotient_of := ⟨⟨f13, _, PySem.W.mg_of X G a13, F13.kp, F13.binds (ps := ["number", "other"]) fun _ _ _ _ _ _ us hl => match us, hl with | [_, _], _ => rfl, f_quotient_of g F13⟩, mono_quotient_of⟩
  have F15 := fun_mk (st := s_is_below) l15 c15 k15
  have h_is_below : Has l.prog w K mg base "is_below" ["one", "other"] 1 sp_is_below := ⟨⟨f15, _, PySem.W.mg_of X G a15, F15.kp, F15.binds (ps := ["one", "other"]) fun _ _ _ _ _ _ us hl => match us, hl with | [_, _], _ => rfl, f_is_below g F15⟩, mono_is_below⟩
  have F21 := fun_mk (st := s_law_pool) l21 c21 k21
  have h_law_pool : Has l.prog w K mg base "_law_pool" ["script"] 1 sp_law_pool := ⟨⟨f21, _, PySem.W.mg_of X G a21, F21.kp, F21.binds (ps := ["script"]) fun _ _ _ _ _ _ us hl => match us, hl with | [_], _ => rfl, f_law_pool g F21⟩, mono_law_pool⟩
  have F22 := fun_mk (st := s_law_draw) l22 c22 k22
  have h_law_draw : Has l.prog w K mg base "_law_draw" ["pool", "many"] 1 sp_law_draw := ⟨⟨f22, _, PySem.W.mg_of X G a22, F22.kp, F22.binds (ps := ["pool", "many"]) fun _ _ _ _ _ _ us hl => match us, hl with | [_, _], _ => rfl, f_law_draw g F22⟩, mono_law_draw⟩
  have F30 := fun_mk (st := s_law_quotient) l30 c30 k30
  have h_law_quotient : Has l.prog w K mg base "_law_quotient" ["number", "other"] 1 sp_law_quotient := ⟨⟨f30, _, PySem.W.mg_of X G a30, F30.kp, F30.binds (ps := ["number", "other"]) fun _ _ _ _ _ _ us hl => match us, hl with | [_, _], _ => rfl, f_law_quotient g F30⟩, mono_law_quotient⟩
  have F32 := fun_mk (st := s_law_count) l32 c32 k32
  have h_law_count : Has l.prog w K mg base "_law_count" ["levels", "blanks", "marks"] 1 sp_law_count := ⟨⟨f32, _, PySem.W.mg_of X G a32, F32.kp, F32.binds (ps := ["levels", "blanks", "marks"]) fun _ _ _ _ _ _ us hl => match us, hl with | [_, _, _], _ => rfl, f_law_count g F32⟩, mono_law_count⟩
  have F34 := fun_mk (st := s_law_is_ways) l34 c34 k34
  have h_law_is_ways : Has l.prog w K mg base "_law_is_ways" ["levels", "blanks", "mark", "other", "many", "thing"] 1 sp_law_is_ways := ⟨⟨f34, _, PySem.W.mg_of X G a34, F34.kp, F34.binds (ps := ["levels", "blanks", "mark", "other", "many", "thing"]) fun _ _ _ _ _ _ us hl => match us, hl with | [_, _, _, _, _, _], _ => rfl, f_law_is_ways g F34⟩, mono_law_is_ways⟩
  have F35 := fun_mk (st := s_law_is_cut) l35 c35 k35
  have h_law_is_cut : Has l.prog w K mg base "_law_is_cut" ["levels", "mark", "other", "thing"] 1 sp_law_is_cut := ⟨⟨f35, _, PySem.W.mg_of X G a35, F35.kp, F35.binds (ps := ["levels", "mark", "other", "thing"]) fun _ _ _ _ _ _ us hl => match us, hl with | [_, _, _, _], _ => rfl, f_law_is_cut g F35⟩, mono_law_is_cut⟩
  have F1 := fun_mk (st := s_integer_within) l1 c1 k1
  have h_integer_within : Has l.prog w K mg base "integer_within" ["thing", "low", "high"] 2 sp_integer_within := ⟨⟨f1, _, PySem.W.mg_of X G a1, F1.kp, F1.binds (ps := ["thing", "low", "high"]) fun _ _ _ _ _ _ us hl => match us, hl with | [_, _, _], _ => rfl, f_integer_within g h_is_integer F1⟩, mono_integer_within⟩
  have F5 := fun_mk (st := s_search) l5 c5 k5
  have h_search : Has l.prog w K mg base "search" ["lines", "blanks", "flow", "begin"] 2 sp_search := ⟨⟨f5, _, PySem.W.mg_of X G a5, F5.kp, F5.binds (ps := ["lines", "blanks", "flow", "begin"]) fun _ _ _ _ _ _ us hl => match us, hl with | [_, _, _, _], _ => rfl, f_search g h_go_on F5⟩, mono_search⟩
  have F14 := fun_mk (st := s_plus_of) l14 c14 k14
  have h_plus_of : Has l.prog w K mg base "plus_of" ["one", "other"] 2 sp_plus_of := ⟨⟨f14, _, PySem.W.mg_of X G a14, F14.kp, F14.binds (ps := ["one", "other"]) fun _ _ _ _ _ _ us hl => match us, hl with | [_, _], _ => rfl, f_plus_of g h_quotient_of F14⟩, mono_plus_of⟩
  have F16 := fun_mk (st := s_scaled_by) l16 c16 k16
  have h_scaled_by : Has l.prog w K mg base "scaled_by" ["number", "one"] 2 sp_scaled_by := ⟨⟨f16, _, PySem.W.mg_of X G a16, F16.kp, F16.binds (ps := ["number", "one"]) fun _ _ _ _ _ _ us hl => match us, hl with | [_, _], _ => rfl, f_scaled_by g h_quotient_of F16⟩, mono_scaled_by⟩
  have F18 := fun_mk (st := s_most_often) l18 c18 k18
  have h_most_often : Has l.prog w K mg base "most_often" ["worths"] 2 sp_most_often := ⟨⟨f18, _, PySem.W.mg_of X G a18, F18.kp, F18.binds (ps := ["worths"]) fun _ _ _ _ _ _ us hl => match us, hl with | [_], _ => rfl, f_most_often g h_is_below F18⟩, mono_most_often⟩
  have F23 := fun_mk (st := s_law_order) l23 c23 k23
  have h_law_order : Has l.prog w K mg base "_law_order" ["pool", "many"] 2 sp_law_order := ⟨⟨f23, _, PySem.W.mg_of X G a23, F23.kp, F23.binds (ps := ["pool", "many"]) fun _ _ _ _ _ _ us hl => match us, hl with | [_, _], _ => rfl, f_law_order g h_law_draw F23⟩, mono_law_order⟩
  have F25 := fun_mk (st := s_law_names) l25 c25 k25
  have h_law_names : Has l.prog w K mg base "_law_names" ["pool", "many"] 2 sp_law_names := ⟨⟨f25, _, PySem.W.mg_of X G a25, F25.kp, F25.binds (ps := ["pool", "many"]) fun _ _ _ _ _ _ us hl => match us, hl with | [_, _], _ => rfl, f_law_names g h_law_draw F25⟩, mono_law_names⟩
  have F26 := fun_mk (st := s_law_pairs) l26 c26 k26
  have h_law_pairs : Has l.prog w K mg base "_law_pairs" ["pool", "kind", "size"] 2 sp_law_pairs := ⟨⟨f26, _, PySem.W.mg_of X G a26, F26.kp, F26.binds (ps := ["pool", "kind", "size"]) fun _ _ _ _ _ _ us hl => match us, hl with | [_, _, _], _ => rfl, f_law_pairs g h_law_draw F26⟩, mono_law_pairs⟩
  have F28 := fun_mk (st := s_law_blanks) l28 c28 k28
  have h_law_blanks : Has l.prog w K mg base "_law_blanks" ["pool", "levels", "part"] 2 sp_law_blanks := ⟨⟨f28, _, PySem.W.mg_of X G a28, F28.kp, F28.binds (ps := ["pool", "levels", "part"]) fun _ _ _ _ _ _ us hl => match us, hl with | [_, _, _], _ => rfl, f_law_blanks g h_law_draw F28⟩, mono_law_blanks⟩
  have F29 := fun_mk (st := s_law_two) l29 c29 k29
  have h_law_two : Has l.prog w K mg base "_law_two" ["pool", "levels"] 2 sp_law_two := ⟨⟨f29, _, PySem.W.mg_of X G a29, F29.kp, F29.binds (ps := ["pool", "levels"]) fun _ _ _ _ _ _ us hl => match us, hl with | [_, _], _ => rfl, f_law_two g h_law_draw F29⟩, mono_law_two⟩
  have F31 := fun_mk (st := s_law_plus) l31 c31 k31
  have h_law_plus : Has l.prog w K mg base "_law_plus" ["one", "other", "sign"] 2 sp_law_plus := ⟨⟨f31, _, PySem.W.mg_of X G a31, F31.kp, F31.binds (ps := ["one", "other", "sign"]) fun _ _ _ _ _ _ us hl => match us, hl with | [_, _, _], _ => rfl, f_law_plus g h_law_quotient F31⟩, mono_law_plus⟩
  have F33 := fun_mk (st := s_law_least) l33 c33 k33
  have h_law_least : Has l.prog w K mg base "_law_least" ["levels", "blanks", "mark", "other"] 2 sp_law_least := ⟨⟨f33, _, PySem.W.mg_of X G a33, F33.kp, F33.binds (ps := ["levels", "blanks", "mark", "other"]) fun _ _ _ _ _ _ us hl => match us, hl with | [_, _, _, _], _ => rfl, f_law_least g h_law_count F33⟩, mono_law_least⟩
  have F6 := fun_mk (st := s_flow_between) l6 c6 k6
  have h_flow_between : Has l.prog w K mg base "flow_between" ["lines", "blanks", "begin", "end", "many"] 3 sp_flow_between := ⟨⟨f6, _, PySem.W.mg_of X G a6, F6.kp, F6.binds (ps := ["lines", "blanks", "begin", "end", "many"]) fun _ _ _ _ _ _ us hl => match us, hl with | [_, _, _, _, _], _ => rfl, f_flow_between g h_first_flow h_search F6⟩, mono_flow_between⟩
  have F9 := fun_mk (st := s_is_step) l9 c9 k9
  have h_is_step : Has l.prog w K mg base "is_step" ["lines", "blanks", "thing"] 3 sp_is_step := ⟨⟨f9, _, PySem.W.mg_of X G a9, F9.kp, F9.binds (ps := ["lines", "blanks", "thing"]) fun _ _ _ _ _ _ us hl => match us, hl with | [_, _, _], _ => rfl, f_is_step g h_integer_within h_tuple_of F9⟩, mono_is_step⟩
  have F17 := fun_mk (st := s_added) l17 c17 k17
  have h_added : Has l.prog w K mg base "added" ["row"] 3 sp_added := ⟨⟨f17, _, PySem.W.mg_of X G a17, F17.kp, F17.binds (ps := ["row"]) fun _ _ _ _ _ _ us hl => match us, hl with | [_], _ => rfl, f_added g h_plus_of F17⟩, mono_added⟩
  have F27 := fun_mk (st := s_law_levels) l27 c27 k27
  have h_law_levels : Has l.prog w K mg base "_law_levels" ["pool", "kind", "size", "most"] 3 sp_law_levels := ⟨⟨f27, _, PySem.W.mg_of X G a27, F27.kp, F27.binds (ps := ["pool", "kind", "size", "most"]) fun _ _ _ _ _ _ us hl => match us, hl with | [_, _, _, _], _ => rfl, f_law_levels g h_law_draw h_law_order h_law_names h_law_pairs F27⟩, mono_law_levels⟩
  have F36 := fun_mk (st := s_law_estimates) l36 c36 k36
  have h_law_estimates : Has l.prog w K mg base "_law_estimates" ["readings", "ways"] 3 sp_law_estimates := ⟨⟨f36, _, PySem.W.mg_of X G a36, F36.kp, F36.binds (ps := ["readings", "ways"]) fun _ _ _ _ _ _ us hl => match us, hl with | [_, _], _ => rfl, f_law_estimates g h_law_plus F36⟩, mono_law_estimates⟩
  have F37 := fun_mk (st := s_law_lies) l37 c37 k37
  have h_law_lies : Has l.prog w K mg base "_law_lies" ["pool", "levels", "blanks", "lies", "most"] 3 sp_law_lies := ⟨⟨f37, _, PySem.W.mg_of X G a37, F37.kp, F37.binds (ps := ["pool", "levels", "blanks", "lies", "most"]) fun _ _ _ _ _ _ us hl => match us, hl with | [_, _, _, _, _], _ => rfl, f_law_lies g h_law_draw h_law_quotient h_law_plus F37⟩, mono_law_lies⟩
  have F38 := fun_mk (st := s_law_crossed) l38 c38 k38
  have h_law_crossed : Has l.prog w K mg base "_law_crossed" ["pool"] 3 sp_law_crossed := ⟨⟨f38, _, PySem.W.mg_of X G a38, F38.kp, F38.binds (ps := ["pool"]) fun _ _ _ _ _ _ us hl => match us, hl with | [_], _ => rfl, f_law_crossed g h_law_draw h_law_order h_law_names F38⟩, mono_law_crossed⟩
  have F8 := fun_mk (st := s_ways_between) l8 c8 k8
  have h_ways_between : Has l.prog w K mg base "ways_between" ["levels", "blanks", "mark", "other", "many"] 4 sp_ways_between := ⟨⟨f8, _, PySem.W.mg_of X G a8, F8.kp, F8.binds (ps := ["levels", "blanks", "mark", "other", "many"]) fun _ _ _ _ _ _ us hl => match us, hl with | [_, _, _, _, _], _ => rfl, f_ways_between g h_flow_between h_one_way F8⟩, mono_ways_between⟩
  have F10 := fun_mk (st := s_is_way) l10 c10 k10
  have h_is_way : Has l.prog w K mg base "is_way" ["lines", "blanks", "mark", "other", "thing"] 4 sp_is_way := ⟨⟨f10, _, PySem.W.mg_of X G a10, F10.kp, F10.binds (ps := ["lines", "blanks", "mark", "other", "thing"]) fun _ _ _ _ _ _ us hl => match us, hl with | [_, _, _, _, _], _ => rfl, f_is_way g h_is_step F10⟩, mono_is_way⟩
  have F12 := fun_mk (st := s_least_cut) l12 c12 k12
  have h_least_cut : Has l.prog w K mg base "least_cut" ["levels", "blanks", "mark", "other"] 4 sp_least_cut := ⟨⟨f12, _, PySem.W.mg_of X G a12, F12.kp, F12.binds (ps := ["levels", "blanks", "mark", "other"]) fun _ _ _ _ _ _ us hl => match us, hl with | [_, _, _, _], _ => rfl, f_least_cut g h_flow_between F12⟩, mono_least_cut⟩
  have F19 := fun_mk (st := s_way_estimates) l19 c19 k19
  have h_way_estimates : Has l.prog w K mg base "way_estimates" ["readings", "ways"] 4 sp_way_estimates := ⟨⟨f19, _, PySem.W.mg_of X G a19, F19.kp, F19.binds (ps := ["readings", "ways"]) fun _ _ _ _ _ _ us hl => match us, hl with | [_, _], _ => rfl, f_way_estimates g h_scaled_by h_added F19⟩, mono_way_estimates⟩
  have F24 := fun_mk (st := s_law_same) l24 c24 k24
  have h_law_same : Has l.prog w K mg base "_law_same" ["told", "due"] 4 sp_law_same := ⟨⟨f24, _, PySem.W.mg_of X G a24, F24.kp, F24.binds (ps := ["told", "due"]) fun _ _ _ _ _ _ us hl => match us, hl with | [_, _], _ => rfl, f_law_same_at g (PySem.W.mg_of X G a24) F24.kp (F24.binds (ps := ["told", "due"]) fun _ _ _ _ _ _ us hl => match us, hl with | [_, _], _ => rfl) F24 3⟩, mono_law_same⟩
  have F11 := fun_mk (st := s_is_ways) l11 c11 k11
  have h_is_ways : Has l.prog w K mg base "is_ways" ["levels", "blanks", "mark", "other", "many", "thing"] 5 sp_is_ways := ⟨⟨f11, _, PySem.W.mg_of X G a11, F11.kp, F11.binds (ps := ["levels", "blanks", "mark", "other", "many", "thing"]) fun _ _ _ _ _ _ us hl => match us, hl with | [_, _, _, _, _, _], _ => rfl, f_is_ways g h_tuple_of h_is_way F11⟩, mono_is_ways⟩
  have F20 := fun_mk (st := s_way_vote) l20 c20 k20
  have h_way_vote : Has l.prog w K mg base "way_vote" ["readings", "ways"] 5 sp_way_vote := ⟨⟨f20, _, PySem.W.mg_of X G a20, F20.kp, F20.binds (ps := ["readings", "ways"]) fun _ _ _ _ _ _ us hl => match us, hl with | [_, _], _ => rfl, f_way_vote g h_most_often h_way_estimates F20⟩, mono_way_vote⟩
  have F39 := fun_mk (st := s_law_holds) l39 c39 k39
  have h_law_holds : Has l.prog w K mg base "_law_holds" ["pool", "levels", "blanks", "mark", "other", "least", "tally"] 6 sp_law_holds := ⟨⟨f39, _, PySem.W.mg_of X G a39, F39.kp, F39.binds (ps := ["pool", "levels", "blanks", "mark", "other", "least", "tally"]) fun _ _ _ _ _ _ us hl => match us, hl with | [_, _, _, _, _, _, _], _ => rfl, f_law_holds g h_ways_between h_is_ways h_least_cut h_way_estimates h_way_vote h_law_draw h_law_same h_law_plus h_law_count h_law_is_ways h_law_is_cut h_law_estimates h_law_lies F39⟩, mono_law_holds⟩
  exact f_law g h_law_pool h_law_draw h_law_order h_law_names h_law_levels h_law_blanks h_law_two h_law_least h_law_crossed h_law_holds (fun_mk (st := s_law) l40 c40 k40)
end K76
set_option Elab.async false
set_option linter.all false
set_option maxRecDepth 100000
set_option pp.deepTerms false
set_option pp.maxSteps 200
open PySem PySem.W PyProof.Rows
set_option maxHeartbeats 0 in
theorem PySem.Challenge.cw_sumsbetray_k76_whole_ways_holds : PySem.Challenge.rw_sumsbetray_k76_whole_ways.Holds := by
  w_on; o_law; k_head; (case hw => w_witness2)
  k_fill
  refine K76.walk_mine (l := PySem.Challenge.rw_sumsbetray_k76_whole_ways) (n := 63) (k := 7) (x := "script") rfl (by decide) (by decide) rfl ⟨rfl, by decide, by decide⟩ (fun w h Y => PySem.W.kIn_of Y) ?nl ?F
  case F =>
    intro w mg fa h KX G hmg
    refine' K76.all_mk KX G hmg ?a0 ?l0 ?c0 ?k0 ?a1 ?l1 ?c1 ?k1 ?a2 ?l2 ?c2 ?k2 ?a3 ?l3 ?c3 ?k3 ?a4 ?l4 ?c4 ?k4 ?a5 ?l5 ?c5 ?k5 ?a6 ?l6 ?c6 ?k6 ?a7 ?l7 ?c7 ?k7 ?a8 ?l8 ?c8 ?k8 ?a9 ?l9 ?c9 ?k9 ?a10 ?l10 ?c10 ?k10 ?a11 ?l11 ?c11 ?k11 ?a12 ?l12 ?c12 ?k12 ?a13 ?l13 ?c13 ?k13 ?a14 ?l14 ?c14 ?k14 ?a15 ?l15 ?c15 ?k15 ?a16 ?l16 ?c16 ?k16 ?a17 ?l17 ?c17 ?k17 ?a18 ?l18 ?c18 ?k18 ?a19 ?l19 ?c19 ?k19 ?a20 ?l20 ?c20 ?k20 ?a21 ?l21 ?c21 ?k21 ?a22 ?l22 ?c22 ?k22 ?a23 ?l23 ?c23 ?k23 ?a24 ?l24 ?c24 ?k24 ?a25 ?l25 ?c25 ?k25 ?a26 ?l26 ?c26 ?k26 ?a27 ?l27 ?c27 ?k27 ?a28 ?l28 ?c28 ?k28 ?a29 ?l29 ?c29 ?k29 ?a30 ?l30 ?c30 ?k30 ?a31 ?l31 ?c31 ?k31 ?a32 ?l32 ?c32 ?k32 ?a33 ?l33 ?c33 ?k33 ?a34 ?l34 ?c34 ?k34 ?a35 ?l35 ?c35 ?k35 ?a36 ?l36 ?c36 ?k36 ?a37 ?l37 ?c37 ?k37 ?a38 ?l38 ?c38 ?k38 ?a39 ?l39 ?c39 ?k39 ?a40 ?l40 ?c40 ?k40 ?z_len ?z_int ?z_abs ?z_tuple ?z_list ?z_min ?z_all ?z_sorted ?z_str ?z_bool ?z_set ?z_isinstance ?z_range ?z_enumerate ?z_gcd ?a_z ?l_z 
    (case a0 => k_is)
    (case l0 => k_is)
    (case c0 => k_is)
    (case k0 => k_is)
    (case a1 => k_is)
    (case l1 => k_is)
    (case c1 => k_is)
    (case k1 => k_is)
    (case a2 => k_is)
    (case l2 => k_is)
    (case c2 => k_is)
    (case k2 => k_is)
    (case a3 => k_is)
    (case l3 => k_is)
    (case c3 => k_is)
    (case k3 => k_is)
    (case a4 => k_is)
    (case l4 => k_is)
    (case c4 => k_is)
    (case k4 => k_is)
    (case a5 => k_is)
    (case l5 => k_is)
    (case c5 => k_is)
    (case k5 => k_is)
    (case a6 => k_is)
    (case l6 => k_is)
    (case c6 => k_is)
    (case k6 => k_is)
    (case a7 => k_is)
    (case l7 => k_is)
    (case c7 => k_is)
    (case k7 => k_is)
    (case a8 => k_is)
    (case l8 => k_is)
    (case c8 => k_is)
    (case k8 => k_is)
    (case a9 => k_is)
    (case l9 => k_is)
    (case c9 => k_is)
    (case k9 => k_is)
    (case a10 => k_is)
    (case l10 => k_is)
    (case c10 => k_is)
    (case k10 => k_is)
    (case a11 => k_is)
    (case l11 => k_is)
    (case c11 => k_is)
    (case k11 => k_is)
    (case a12 => k_is)
    (case l12 => k_is)
    (case c12 => k_is)
    (case k12 => k_is)
    (case a13 => k_is)
    (case l13 => k_is)
    (case c13 => k_is)
    (case k13 => k_is)
    (case a14 => k_is)
    (case l14 => k_is)
    (case c14 => k_is)
    (case k14 => k_is)
    (case a15 => k_is)
    (case l15 => k_is)
    (case c15 => k_is)
    (case k15 => k_is)
    (case a16 => k_is)
    (case l16 => k_is)
    (case c16 => k_is)
    (case k16 => k_is)
    (case a17 => k_is)
    (case l17 => k_is)
    (case c17 => k_is)
    (case k17 => k_is)
    (case a18 => k_is)
    (case l18 => k_is)
    (case c18 => k_is)
    (case k18 => k_is)
    (case a19 => k_is)
    (case l19 => k_is)
    (case c19 => k_is)
    (case k19 => k_is)
    (case a20 => k_is)
    (case l20 => k_is)
    (case c20 => k_is)
    (case k20 => k_is)
    (case a21 => k_is)
    (case l21 => k_is)
    (case c21 => k_is)
    (case k21 => k_is)
    (case a22 => k_is)
    (case l22 => k_is)
    (case c22 => k_is)
    (case k22 => k_is)
    (case a23 => k_is)
    (case l23 => k_is)
    (case c23 => k_is)
    (case k23 => k_is)
    (case a24 => k_is)
    (case l24 => k_is)
    (case c24 => k_is)
    (case k24 => k_is)
    (case a25 => k_is)
    (case l25 => k_is)
    (case c25 => k_is)
    (case k25 => k_is)
    (case a26 => k_is)
    (case l26 => k_is)
    (case c26 => k_is)
    (case k26 => k_is)
    (case a27 => k_is)
    (case l27 => k_is)
    (case c27 => k_is)
    (case k27 => k_is)
    (case a28 => k_is)
    (case l28 => k_is)
    (case c28 => k_is)
    (case k28 => k_is)
    (case a29 => k_is)
    (case l29 => k_is)
    (case c29 => k_is)
    (case k29 => k_is)
    (case a30 => k_is)
    (case l30 => k_is)
    (case c30 => k_is)
    (case k30 => k_is)
    (case a31 => k_is)
    (case l31 => k_is)
    (case c31 => k_is)
    (case k31 => k_is)
    (case a32 => k_is)
    (case l32 => k_is)
    (case c32 => k_is)
    (case k32 => k_is)
    (case a33 => k_is)
    (case l33 => k_is)
    (case c33 => k_is)
    (case k33 => k_is)
    (case a34 => k_is)
    (case l34 => k_is)
    (case c34 => k_is)
    (case k34 => k_is)
    (case a35 => k_is)
    (case l35 => k_is)
    (case c35 => k_is)
    (case k35 => k_is)
    (case a36 => k_is)
    (case l36 => k_is)
    (case c36 => k_is)
    (case k36 => k_is)
    (case a37 => k_is)
    (case l37 => k_is)
    (case c37 => k_is)
    (case k37 => k_is)
    (case a38 => k_is)
    (case l38 => k_is)
    (case c38 => k_is)
    (case k38 => k_is)
    (case a39 => k_is)
    (case l39 => k_is)
    (case c39 => k_is)
    (case k39 => k_is)
    (case a40 => k_is)
    (case l40 => k_is)
    (case c40 => k_is)
    (case k40 => k_is)
    (case z_len => k_is)
    (case z_int => k_is)
    (case z_abs => k_is)
    (case z_tuple => k_is)
    (case z_list => k_is)
    (case z_min => k_is)
    (case z_all => k_is)
    (case z_sorted => k_is)
    (case z_str => k_is)
    (case z_bool => k_is)
    (case z_set => k_is)
    (case z_isinstance => k_is)
    (case z_range => k_is)
    (case z_enumerate => k_is)
    (case z_gcd => k_is)
    (case a_z => k_is)
    (case l_z => k_is)
  case nl =>
    intro p
    first
      | rfl
      | decide +kernel
      | k_is
