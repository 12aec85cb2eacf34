import PyProof.Rows.All
import Wide.All
import OpenK.AllK
import Wide.FinOn
import HandS.ForMost
import HandS.Wide
import HandS.Gcd
import HandS.Walk
import HandS.Zip
import HandS.Conv
import HandS.IsInst
import HandS.More
import HandS.Strs
import HandS.Style
import HandS.TupLe
import HandS.RevRange
import HandS.Deep
import HandS.TupAny
import HandS.TupMul
import KE.KMathGC
import KE.GoesNew
import KE.GoesMore
import KE.KIndexOf
import KE.KDictPairs
import PySem.Challenge.RW_sumsbetray_k82_whole_row_form
set_option Elab.async false
set_option linter.all false
set_option maxRecDepth 100000
set_option maxHeartbeats 4000000
/-! Pf: tuples are made so that their object is known (no dict of its own): their methods can be called. -/
namespace Pf
open PySem PySem.Spec PyProof.Rows L2
abbrev Fg := PySem.W.Frag
/-- a tuple whose object has no dict: one that was made, or of the written part -/
def TupQ (K : Fg) (H : Hp) (a : Addr) (xs : List V) : Prop := (∃ o, H a = some (.frz o (.tup xs)) ∧ o.dict = none) ∨
  ∃ (o : Obj) (its : Array Value) (n : Nat), K.lookup a = some o ∧ o.cls = .type "tuple" ∧ o.dict = none ∧ o.data = .seq its n ∧ its.size ≤ sizeLine ∧ Vals xs its.toList
theorem TupQ.sq {K : Fg} {H : Hp} {a : Addr} {xs : List V} (h : TupQ K H a xs) : SqT K H a xs := by
  rcases h with ⟨o, h, _⟩ | ⟨o, its, n, h1, h2, _, h3⟩
  · exact .inl (.inr ⟨o, h⟩)
  · exact .inr ⟨o, its, n, h1, h2, h3⟩
theorem tq_mono {K : Fg} {G H : Hp} (s : Same G H) {a : Addr} {xs : List V} (h : TupQ K G a xs) : TupQ K H a xs := by
  rcases h with ⟨o, h, d⟩ | h
  · exact .inl ⟨o, s _ _ h, d⟩
  · exact .inr h
section
variable {X : Cx} {es : List Expr} {t : TA} {pos : Pos}
/-- what the frozen new tuple asks -/
theorem frz_new {P : Program} {w : World} {H : Hp} {h : Heap} {p : Addr} {us : List Value} {xs : List V} (e : h.get? p = some { cls := .type "tuple", data := .seq us.toArray }) (r : Vals xs us) (z : xs.length ≤ sizeLine) :
    ObjOk P w H h p (.frz { cls := .type "tuple", data := .seq us.toArray } (.tup xs)) := ⟨e, z, us, r, ⟨_, e, rfl, _, rfl⟩⟩
theorem pe_tupF {x1 : Nat} (h : PA X es t) : PE X (.Tuple es x1 pos) (fun σ H Q => t σ H fun xs H1 => xs.length ≤ sizeLine ∧ ∀ p o, o.dict = none → H1 p = none → Q (.ref p) (upd H1 p (.frz o (.tup xs)))) := by
  refine ⟨fun pins s σ H Q I hq => wpAny_Tuple_spliced (thn (h.run pos pins s σ H _ I hq) fun us s1 ⟨xs, H1, I1, r, z, q⟩ => ⟨by rw [← r.length]; exact z, ?_⟩)⟩
  exact ⟨.ref s1.heap.objs.size, _, I1.laid (t' := s1.toks) (fun b u e => Heap.get?_push_of_some _ e) (Nat.le_refl _) (frz_new (Heap.get?_push_size _ rfl) r z), rfl, q _ _ rfl (I1.hok.fresh (Nat.le_refl _))⟩
theorem call_tupleF : CallR X (.type "tuple") (fun xs H Q => ∃ p ys, xs = [.ref p] ∧ ((SqL X.K H p ys ∧ ∀ l o, o.dict = none → H l = none → Q (.ref l) (upd H l (.frz o (.tup ys)))) ∨ (SqT X.K H p ys ∧ Q (.ref p) H))) := by
  intro pins s σ H xs us Q I r h
  obtain ⟨p, ys, rfl, h⟩ := h
  obtain ⟨u, rfl, rx⟩ := vals1 r
  cases rx
  rcases h with ⟨hq, q⟩ | ⟨hq, q⟩
  · obtain ⟨its, r', pl, hz⟩ := I.list hq
    have hlen := r'.length
    refine call_tuple_list pl.isList (fun h' kp => ?_) (by simp only [List.size_toArray] <;> omega)
    have I1 : Inv X pins σ H { s with heap := h' } := I.kept (t' := s.toks) kp
    exact ⟨.ref h'.objs.size, _, I1.laid (t' := s.toks) (fun b o e => Heap.get?_push_of_some _ e) (Nat.le_refl _) (frz_new (Heap.get?_push_size _ rfl) r' hz), rfl, q _ _ rfl (I1.hok.fresh (Nat.le_refl _))⟩
  · obtain ⟨its, r', pl, hz⟩ := I.tuple hq
    exact call_tuple_same pl ⟨.ref p, H, I, rfl, q⟩
def rCatF (K : Fg) : R2 := fun x y H Q => ∃ a b xs ys, x = .ref a ∧ y = .ref b ∧ SqT K H a xs ∧ SqT K H b ys ∧ xs.length + ys.length ≤ sizeLine ∧
  (xs = [] → Q (.ref b) H) ∧ (xs ≠ [] → ys = [] → Q (.ref a) H) ∧ (xs ≠ [] → ys ≠ [] → ∀ p o, o.dict = none → H p = none → Q (.ref p) (upd H p (.frz o (.tup (xs ++ ys)))))
theorem op_catF : OpR X (binaryOp .Add) (rCatF X.K) := by
  intro pins s σ H x y v u Q I rx ry h
  obtain ⟨a, b, xs, ys, rfl, rfl, ha, hb, hz, q0, q1, q2⟩ := h
  cases rx
  cases ry
  obtain ⟨its, r1, p1, _⟩ := I.tuple ha
  obtain ⟨its2, r2, p2, _⟩ := I.tuple hb
  by_cases hx : xs = []
  · subst hx
    cases r1
    exact cat_tup0 p1 p2 ⟨.ref b, H, I, rfl, q0 rfl⟩
  · refine HT.cat_tup p1 p2 (fun z => hx (r1.nil_iff.mp z)) (fun z => ⟨.ref a, H, I, rfl, q1 hx (r2.nil_iff.mp z)⟩) (fun z => ?_) (by rw [← r1.length, ← r2.length]; exact hz)
    exact ⟨.ref s.heap.objs.size, _, I.laid (t' := s.toks) (fun b ob q => Heap.get?_push_of_some _ q) (Nat.le_refl _) (frz_new (Heap.get?_push_size _ rfl) (r1.append r2) (by rw [List.length_append]; exact hz)), rfl, q2 hx (fun w => z (r2.nil_iff.mpr w)) _ _ rfl (I.hok.fresh (Nat.le_refl _))⟩
def rSlF (K : Fg) : V → Option Int → Option Int → Hp → VK → Prop := fun x lo hi H Q => ∃ a xs, x = .ref a ∧ SqT K H a xs ∧
  (HT.sIx xs.length 0 lo = 0 ∧ HT.sIx xs.length xs.length hi = xs.length → Q (.ref a) H) ∧ (¬ (HT.sIx xs.length 0 lo = 0 ∧ HT.sIx xs.length xs.length hi = xs.length) → ∀ p o, o.dict = none → H p = none → Q (.ref p) (upd H p (.frz o (.tup (cutV xs lo hi)))))
theorem sl_tupF : SlR X (rSlF X.K) := by
  intro pins s σ H x v vl vu lo hi sl Q I rx hs pl pu h
  obtain ⟨a, xs, rfl, hx, q1, q2⟩ := h
  cases rx
  obtain ⟨its, r, ht, hz⟩ := I.tuple hx
  have hlen : its.toArray.size = xs.length := by rw [List.size_toArray]; exact r.length.symm
  refine ⟨"tuple", _, PyProof.Rows.slot_tuple_getitem.lookup, ht.typeIs, ?_⟩
  by_cases hw : HT.sIx xs.length 0 lo = 0 ∧ HT.sIx xs.length xs.length hi = xs.length
  · exact getItem_tuple_whole ht hs pl pu (by rw [hlen]; exact hw) ⟨.ref a, H, I, rfl, q1 hw⟩
  · refine HT.getItem_tuple_cut ht hs pl pu (by rw [hlen]; exact hw) ?_ (by rw [hlen]; exact hz)
    rw [hlen]
    exact ⟨.ref s.heap.objs.size, _, I.laid (t' := s.toks) (fun b ob q => Heap.get?_push_of_some _ q) (Nat.le_refl _) (frz_new (Heap.get?_push_size _ rfl) ((r.drop (HT.sIx xs.length 0 lo)).take (HT.sIx xs.length xs.length hi - HT.sIx xs.length 0 lo)) (Nat.le_trans (cutV_length xs lo hi) hz)), rfl, q2 hw _ _ rfl (I.hok.fresh (Nat.le_refl _))⟩
/-- t * n -/
def rRepF (K : Fg) : R2 := fun x y H Q => ∃ l k xs, x = .ref l ∧ y = .int k ∧ SqT K H l xs ∧ xs ≠ [] ∧ 2 ≤ k ∧ k ≤ 1000 ∧ xs.length ≤ 1000 ∧ ∀ p o, o.dict = none → H p = none → Q (.ref p) (upd H p (.frz o (.tup (List.replicate k.toNat xs).flatten)))
theorem op_repF : OpR X (binaryOp .Mult) (rRepF X.K) := by
  intro pins s σ H x y v u Q I rx ry ⟨l, k, xs, ex, ey, hT, hne, h1, h2, hz, q⟩
  subst ex ey
  cases rx
  obtain ⟨t, rfl⟩ := ry
  obtain ⟨its, r, ⟨⟨cls, dd, data, sl⟩, ho, hc, n, hd⟩, hs⟩ := I.tuple hT
  dsimp only at hc hd
  subst hc hd
  have hle := r.length
  have hi : its.toArray.isEmpty = false := by
    cases its with
    | nil => exact absurd (List.eq_nil_of_length_eq_zero hle) hne
    | cons a b => rfl
  have sz : its.toArray.size = xs.length := by rw [List.size_toArray, hle]
  have big : ((xs.length : Nat) : Int) * k ≤ 1000000 := by
    have := Int.mul_le_mul_of_nonneg_right (show ((xs.length : Nat) : Int) ≤ 1000 by omega) (show 0 ≤ k by omega)
    omega
  have fl : k.toNat * xs.length ≤ sizeLine := by
    rw [sizeLine_eq]
    have := Nat.mul_le_mul (show k.toNat ≤ 1000 by omega) hz
    omega
  have lenR : (List.replicate k.toNat xs).flatten.length ≤ sizeLine := by rw [PyProof.Rows.lm_len_rep_flat]; exact fl
  have W := L2.tuple_mulW l its.toArray n dd sl k t (by rw [decide_eq_false (show ¬ k < -(2 ^ 63) by omega), decide_eq_false (show ¬ k ≥ 2 ^ 63 by omega)] <;> rfl) (by rw [hi, Bool.false_or]; exact beq_eq_false_iff_ne.mpr (by omega)) (by rw [hi, Bool.or_false]; exact decide_eq_false (by omega))
    (by rw [sz]; omega) (by unfold Builtin.Tuple.tupleTooMany; rw [sizeLine_eq, sz]; exact decide_eq_false (by omega)) (by rw [L2.size_rep, List.size_toArray, PyProof.Rows.lm_len_rep_flat, ← hle]; exact fl)
  refine wpAny_binaryOp_repeat_ref (T := "tuple") (U := "int") (by decide) ⟨_, ho, rfl⟩ (fun s' => typeIs_int s' k t) L2.noFill_tuple_mul F.fills_int_mul F.slot_int_rmul L2.repeat_tuple F.slot_int_index.lookup
    (call_meets F.slot_int_rmul (typeIs_int s k t) F.entry_int_rmul (F.args_int_rmul_2 _ _) (L2.int_rmul_tuple k t l its.toArray n dd sl) ⟨ho, rfl, ⟨_, ho, rfl⟩, call_meets F.slot_tuple_mul ⟨_, ho, rfl⟩ F.entry_tuple_mul (F.args_tuple_mul_2 _ _) W ⟨ho, ?_⟩⟩)
  rw [L2.size_rep]
  exact ⟨.ref s.heap.objs.size, _, I.laid (t' := s.toks) (fun b ob q => Heap.get?_push_of_some _ q) (Nat.le_refl _) (frz_new (Heap.get?_push_size _ rfl) (r.rep k.toNat) lenR), rfl, q _ _ rfl (I.hok.fresh (Nat.le_refl _))⟩
/-- a method of a tuple -/
theorem pe_tm {o e : Expr} {to te : TE} {name : Str} {apos cpos : Pos} {id : String} {r : V → List V → Hp → VK → Prop} (slot : Slot "tuple" name id) (hty : typeOf (.builtin id) = pure (.type "method_descriptor")) (hm : MtR X id r) (ho : PE X o to) (ha : PA X [e] t)
    (hbase : attributeBase o name X.env (eval o X.env) = eval o X.env := by rfl)
    (hfew : ((backTo cpos (starEach [e] X.env)).all (fun x => !x.1) && (backToKw cpos (keywordEach [] X.env)).all (fun x => x.1.isSome)
      && decide (([e] : List Expr).length + ([] : List Keyword).length + (if ([] : List Keyword).isEmpty then 0 else 1) < 30)) = true := by rfl)
    (hline : (apos.endLine == cpos.line) = true := by rfl) (hs : starEach [e] X.env = (false, eval e X.env) :: starEach [] X.env := by rfl) (hplain : (backTo cpos (starEach [] X.env)).any (·.1) = false := by rfl) :
    PE X (.Call (.Attribute o name apos) [e] [] cpos) (fun σ H Q => to σ H fun x H1 => (∃ a xs, x = .ref a ∧ TupQ X.K H1 a xs) ∧ t σ H1 fun ys H2 => r x ys H2 Q) := by
  refine ⟨fun pins s σ H Q I h => ?_⟩
  refine wpAny_Call_method_late hbase hfew hline rfl (thn (ho.run pins s σ H _ I h) fun v s1 ⟨x, H1, I1, r1, ⟨a, xs, ex, hT⟩, q1⟩ => ?_)
  subst ex
  cases r1
  have look : ∃ ob, s1.heap.get? a = some ob ∧ ob.dict = none := by
    rcases hT with ⟨o, g, d⟩ | ⟨o, its, n, g, c, d, _⟩
    · exact ⟨o, (I1.hok a _ g).1, d⟩
    · exact ⟨o, I1.kIn a o g, d⟩
  obtain ⟨its, _, ht, _⟩ := I1.tuple hT.sq
  refine ⟨"tuple", id, PySem.F.plainAttrs_tuple, slot, hty, ht.typeIs, fun b e => by cases e; exact look, ?_⟩
  have q2 := ha.run cpos pins s1 σ H1 _ I1 q1
  rw [hs] at q2 ⊢
  exact Calls.callWith_builtin (by show (false || (backTo cpos (starEach [] X.env)).any (·.1)) = false; rw [hplain] <;> rfl) (Calls.evalArgs_plain (thn q2 fun us s2 ⟨ys, H2, I2, r2, q3⟩ => hm pins s2 σ H2 (.ref a) ys _ us Q I2 rfl r2 q3))
end
end Pf
set_option Elab.async false
set_option linter.all false
set_option maxRecDepth 100000
set_option maxHeartbeats 4000000
/-! Pf: a pure layer over the hand layer. Data are PyData; a def's slots hold data or things of its own. -/
namespace Pf
open PySem PySem.Spec PyProof.Rows L2

abbrev D := PyData

theorem sq_mono {K : Fg} {G H : Hp} (s : Same G H) {a : Addr} {xs : List V} (h : SqL K G a xs) : SqL K H a xs := s.seq h
theorem st_mono {K : Fg} {G H : Hp} (s : Same G H) {a : Addr} {xs : List V} (h : SqT K G a xs) : SqT K H a xs := by
  rcases h with (h | ⟨o, h⟩) | h
  · exact .inl (.inl (s _ _ h))
  · exact .inl (.inr ⟨o, s _ _ h⟩)
  · exact .inr h
theorem rd_mono {G H : Hp} (s : Same G H) {a : Addr} {o : HO} (h : Rd G a o) : Rd H a o := by
  rcases h with h | ⟨u, h⟩
  · exact .inl (s _ _ h)
  · exact .inr ⟨u, s _ _ h⟩
mutual
/-- a value stands for data in a heap: lists are tracked (or the script), tuples may be of the written part -/
inductive Rp (K : Fg) (G : Hp) : V → D → Prop
  | non : Rp K G .non .none
  | bl (b : Bool) : Rp K G (.bl b) (.bool b)
  | int (i : Int) : Rp K G (.int i) (.int i)
  | str (x : Str) : Rp K G (.str x) (.str x)
  | lst {a : Addr} {vs : List V} {xs : List D} : Rd G a (.lst vs) → RpAll K G vs xs → Rp K G (.ref a) (.list xs)
  | tup {a : Addr} {vs : List V} {xs : List D} : TupQ K G a vs → RpAll K G vs xs → Rp K G (.ref a) (.tuple xs)
inductive RpAll (K : Fg) (G : Hp) : List V → List D → Prop
  | nil : RpAll K G [] []
  | cons {v : V} {vs : List V} {x : D} {xs : List D} : Rp K G v x → RpAll K G vs xs → RpAll K G (v :: vs) (x :: xs)
end
mutual
theorem rp_dp {K : Fg} {G : Hp} : ∀ (x : D) {v : V}, Rp K G v x → Dp K G v x
  | .none, _, .non => .non
  | .bool b, _, .bl _ => .bl b
  | .int i, _, .int _ => .int i
  | .str z, _, .str _ => .str z
  | .list ds, _, .lst h t => .lst (.inl h) (rps_dp ds t)
  | .tuple ds, _, .tup h t => .tup h.sq (rps_dp ds t)
  | .dict kvs, _, h => nomatch h
theorem rps_dp {K : Fg} {G : Hp} : ∀ (xs : List D) {vs : List V}, RpAll K G vs xs → DpAll K G vs xs
  | [], _, .nil => .nil
  | x :: xs, _, .cons h t => .cons (rp_dp x h) (rps_dp xs t)
end
mutual
theorem rp_mono {K : Fg} {G H : Hp} (s : Same G H) : ∀ (x : D) {v : V}, Rp K G v x → Rp K H v x
  | .none, _, .non => .non
  | .bool b, _, .bl _ => .bl b
  | .int i, _, .int _ => .int i
  | .str z, _, .str _ => .str z
  | .list ds, _, .lst h t => .lst (rd_mono s h) (rps_mono s ds t)
  | .tuple ds, _, .tup h t => .tup (tq_mono s h) (rps_mono s ds t)
  | .dict kvs, _, h => nomatch h
theorem rps_mono {K : Fg} {G H : Hp} (s : Same G H) : ∀ (xs : List D) {vs : List V}, RpAll K G vs xs → RpAll K H vs xs
  | [], _, .nil => .nil
  | x :: xs, _, .cons h t => .cons (rp_mono s x h) (rps_mono s xs t)
end
theorem rps_len {K : Fg} {G : Hp} : ∀ {xs : List D} {vs : List V}, RpAll K G vs xs → vs.length = xs.length
  | [], _, .nil => rfl
  | _ :: xs, _, .cons _ t => by rw [List.length_cons, List.length_cons, rps_len t]
theorem rps_get {K : Fg} {G : Hp} : ∀ {xs : List D} {vs : List V} {i : Nat} {x : D}, RpAll K G vs xs → xs[i]? = some x → ∃ v, vs[i]? = some v ∧ Rp K G v x
  | [], _, _, _, .nil, e => by simp at e
  | y :: xs, _, 0, x, .cons h t, e => by
    simp at e
    subst e
    exact ⟨_, rfl, h⟩
  | y :: xs, _, i + 1, x, .cons h t, e => by
    obtain ⟨v, h1, h2⟩ := rps_get (i := i) t (by simpa using e)
    exact ⟨v, by simpa using h1, h2⟩
theorem rps_getV {K : Fg} {G : Hp} : ∀ {xs : List D} {vs : List V} {i : Nat} {v : V}, RpAll K G vs xs → vs[i]? = some v → ∃ x, xs[i]? = some x ∧ Rp K G v x
  | [], _, _, _, .nil, e => by simp at e
  | y :: xs, _, 0, x, .cons h t, e => by
    simp at e
    subst e
    exact ⟨_, rfl, h⟩
  | y :: xs, _, i + 1, x, .cons h t, e => by
    obtain ⟨v, h1, h2⟩ := rps_getV (i := i) t (by simpa using e)
    exact ⟨v, by simpa using h1, h2⟩
theorem rps_append {K : Fg} {G : Hp} : ∀ {xs ys : List D} {vs ws : List V}, RpAll K G vs xs → RpAll K G ws ys → RpAll K G (vs ++ ws) (xs ++ ys)
  | [], _, _, _, .nil, h => h
  | _ :: _, _, _, _, .cons h t, k => .cons h (rps_append t k)
theorem rps_set {K : Fg} {G : Hp} {x : D} {v : V} (hx : Rp K G v x) : ∀ {xs : List D} {vs : List V} (i : Nat), RpAll K G vs xs → RpAll K G (vs.set i v) (xs.set i x)
  | [], _, _, .nil => .nil
  | _ :: _, _, 0, .cons _ t => .cons hx t
  | _ :: _, _, i + 1, .cons h t => .cons h (rps_set hx i t)
theorem rps_take {K : Fg} {G : Hp} : ∀ {xs : List D} {vs : List V} (i : Nat), RpAll K G vs xs → RpAll K G (vs.take i) (xs.take i)
  | [], _, i, .nil => by simpa using RpAll.nil
  | _ :: _, _, 0, .cons _ t => .nil
  | _ :: _, _, i + 1, .cons h t => .cons h (rps_take i t)
theorem rps_drop {K : Fg} {G : Hp} : ∀ {xs : List D} {vs : List V} (i : Nat), RpAll K G vs xs → RpAll K G (vs.drop i) (xs.drop i)
  | [], _, i, .nil => by simpa using RpAll.nil
  | _ :: _, _, 0, .cons h t => .cons h t
  | _ :: _, _, i + 1, .cons h t => rps_drop i t
theorem rps_rep {K : Fg} {G : Hp} {x : D} {v : V} (h : Rp K G v x) : ∀ n : Nat, RpAll K G (List.replicate n v) (List.replicate n x)
  | 0 => .nil
  | n + 1 => .cons h (rps_rep h n)
theorem rps_erase {K : Fg} {G : Hp} : ∀ {xs : List D} {vs : List V} (i : Nat), RpAll K G vs xs → RpAll K G (vs.eraseIdx i) (xs.eraseIdx i)
  | [], _, _, .nil => .nil
  | _ :: _, _, 0, .cons _ t => t
  | _ :: _, _, i + 1, .cons h t => .cons h (rps_erase i t)
theorem rps_rev {K : Fg} {G : Hp} {xs : List D} {vs : List V} (h : RpAll K G vs xs) : RpAll K G vs.reverse xs.reverse := by
  induction xs generalizing vs with
  | nil => cases h; exact .nil
  | cons x xs ih =>
    cases h with
    | cons h t =>
      rw [List.reverse_cons, List.reverse_cons]
      exact rps_append (ih t) (.cons h .nil)
/-- a list of ints, of texts, of truth values -/
theorem rps_ints {K : Fg} {G : Hp} : ∀ {ns : List Int} {vs : List V}, RpAll K G vs (ns.map PyData.int) → vs = ns.map V.int
  | [], _, .nil => rfl
  | n :: ns, _, .cons h t => by
    cases h
    rw [rps_ints t]
    rfl
theorem ints_rps {K : Fg} {G : Hp} : ∀ ns : List Int, RpAll K G (ns.map V.int) (ns.map PyData.int)
  | [] => .nil
  | n :: ns => .cons (.int n) (ints_rps ns)
theorem rps_strs {K : Fg} {G : Hp} : ∀ {ns : List Str} {vs : List V}, RpAll K G vs (ns.map PyData.str) → vs = ns.map V.str
  | [], _, .nil => rfl
  | n :: ns, _, .cons h t => by
    cases h
    rw [rps_strs t]
    rfl
theorem rps_bools {K : Fg} {G : Hp} : ∀ {ns : List Bool} {vs : List V}, RpAll K G vs (ns.map PyData.bool) → vs = ns.map V.bl
  | [], _, .nil => rfl
  | n :: ns, _, .cons h t => by
    cases h
    rw [rps_bools t]
    rfl

/-! ### what a slot holds -/
/-- a thing of the def's own that is told by a predicate: a heap, a value, the addresses that it takes -/
structure Res where
  ok : Hp → V → List Addr → Prop
  loc : ∀ {H H' : Hp} {v : V} {fp : List Addr}, ok H v fp → (∀ a ∈ fp, H' a = H a) → ok H' v fp
  dom : ∀ {H : Hp} {v : V} {fp : List Addr}, ok H v fp → ∀ a ∈ fp, H a ≠ none
  nd : ∀ {H : Hp} {v : V} {fp : List Addr}, ok H v fp → fp.Nodup

inductive O where
  /-- data: nobody changes it any more -/
  | d (x : D)
  /-- a list of the def's own, its items data -/
  | own (xs : List D)
  /-- a dict of the def's own, its values data -/
  | dct (kvs : List (Key × D))
  /-- anything else of the def's own -/
  | res (r : Res)

abbrev Env := List (Option O)

inductive DpKV (K : Fg) (G : Hp) : List (Key × V) → List (Key × D) → Prop
  | nil : DpKV K G [] []
  | cons {k : Key} {v : V} {x : D} {vs : List (Key × V)} {xs : List (Key × D)} : Rp K G v x → DpKV K G vs xs → DpKV K G ((k, v) :: vs) ((k, x) :: xs)
theorem dkv_mono {K : Fg} {G H : Hp} (s : Same G H) : ∀ {xs : List (Key × D)} {vs : List (Key × V)}, DpKV K G vs xs → DpKV K H vs xs
  | _, _, .nil => .nil
  | _, _, .cons h t => .cons (rp_mono s _ h) (dkv_mono s t)

def RepO (K : Fg) (G H : Hp) : O → V → List Addr → Prop
  | .d x, v, fp => Rp K G v x ∧ fp = []
  | .own xs, v, fp => ∃ p vs, v = .ref p ∧ fp = [p] ∧ H p = some (.lst vs) ∧ RpAll K G vs xs
  | .dct kvs, v, fp => ∃ p vs, v = .ref p ∧ fp = [p] ∧ H p = some (.dK vs) ∧ DpKV K G vs kvs
  | .res r, v, fp => r.ok H v fp
theorem RepO.mono {K : Fg} {G G' H H' : Hp} {o : O} {v : V} {fp : List Addr} (h : RepO K G H o v fp) (s : Same G G') (e : ∀ a ∈ fp, H' a = H a) : RepO K G' H' o v fp := by
  cases o with
  | d x => exact ⟨rp_mono s x h.1, h.2⟩
  | own xs =>
    obtain ⟨p, vs, h1, h2, h3, h4⟩ := h
    subst h2
    exact ⟨p, vs, h1, rfl, by rw [e p (by simp), h3], rps_mono s xs h4⟩
  | dct kvs =>
    obtain ⟨p, vs, h1, h2, h3, h4⟩ := h
    subst h2
    exact ⟨p, vs, h1, rfl, by rw [e p (by simp), h3], dkv_mono s h4⟩
  | res r => exact r.loc h e
theorem RepO.dom {K : Fg} {G H : Hp} {o : O} {v : V} {fp : List Addr} (h : RepO K G H o v fp) : ∀ a ∈ fp, H a ≠ none := by
  cases o with
  | d x => rw [h.2]; simp
  | own xs =>
    obtain ⟨p, vs, h1, h2, h3, h4⟩ := h
    subst h2
    simp [h3]
  | dct kvs =>
    obtain ⟨p, vs, h1, h2, h3, h4⟩ := h
    subst h2
    simp [h3]
  | res r => exact r.dom h
theorem RepO.nd {K : Fg} {G H : Hp} {o : O} {v : V} {fp : List Addr} (h : RepO K G H o v fp) : fp.Nodup := by
  cases o with
  | d x => rw [h.2]; simp
  | own xs =>
    obtain ⟨p, vs, h1, h2, h3, h4⟩ := h
    subst h2
    simp
  | dct kvs =>
    obtain ⟨p, vs, h1, h2, h3, h4⟩ := h
    subst h2
    simp
  | res r => exact r.nd h

inductive Slots (K : Fg) (G H : Hp) : L2.St → Env → List Addr → Prop
  | nil : Slots K G H [] [] []
  | non {x : Option V} {σ : L2.St} {env : Env} {fp : List Addr} : Slots K G H σ env fp → Slots K G H (x :: σ) (none :: env) fp
  | one {v : V} {o : O} {σ : L2.St} {env : Env} {fp1 fp : List Addr} : RepO K G H o v fp1 → Slots K G H σ env fp → Slots K G H (some v :: σ) (some o :: env) (fp1 ++ fp)
theorem Slots.mono {K : Fg} {G G' H H' : Hp} (s : Same G G') : ∀ {σ : L2.St} {env : Env} {fp : List Addr}, Slots K G H σ env fp → (∀ a ∈ fp, H' a = H a) → Slots K G' H' σ env fp
  | _, _, _, .nil, _ => .nil
  | _, _, _, .non h, e => .non (Slots.mono s h e)
  | _, _, _, .one h t, e => .one (h.mono s fun a m => e a (List.mem_append_left _ m)) (Slots.mono s t fun a m => e a (List.mem_append_right _ m))
theorem Slots.dom {K : Fg} {G H : Hp} : ∀ {σ : L2.St} {env : Env} {fp : List Addr}, Slots K G H σ env fp → ∀ a ∈ fp, H a ≠ none
  | _, _, _, .nil => by simp
  | _, _, _, .non h => Slots.dom h
  | _, _, _, .one h t => fun a m => by
    rcases List.mem_append.mp m with m | m
    · exact h.dom a m
    · exact Slots.dom t a m
theorem Slots.len {K : Fg} {G H : Hp} : ∀ {σ : L2.St} {env : Env} {fp : List Addr}, Slots K G H σ env fp → σ.length = env.length
  | _, _, _, .nil => rfl
  | _, _, _, .non h => by rw [List.length_cons, List.length_cons, Slots.len h]
  | _, _, _, .one _ h => by rw [List.length_cons, List.length_cons, Slots.len h]

/-- one slot alone -/
def Slot1 (K : Fg) (G H : Hp) (x : Option V) (oo : Option O) (fp : List Addr) : Prop := match oo with
  | none => fp = []
  | some o => ∃ v, x = some v ∧ RepO K G H o v fp
theorem Slots.mk1 {K : Fg} {G H : Hp} {x : Option V} {oo : Option O} {fp1 fp : List Addr} {σ : L2.St} {env : Env} (h : Slot1 K G H x oo fp1) (t : Slots K G H σ env fp) : Slots K G H (x :: σ) (oo :: env) (fp1 ++ fp) := by
  cases oo with
  | none =>
    have e : fp1 = [] := h
    subst e
    exact .non t
  | some o =>
    obtain ⟨v, rfl, h⟩ := h
    exact .one h t
theorem Slots.split {K : Fg} {G H : Hp} : ∀ {σ : L2.St} {env : Env} {fp : List Addr} {i : Nat} {oo : Option O}, Slots K G H σ env fp → env[i]? = some oo →
    ∃ fpA fp1 fpB x, fp = fpA ++ (fp1 ++ fpB) ∧ σ[i]? = some x ∧ Slot1 K G H x oo fp1 ∧
      ∀ G' H' x' oo' fp1', Same G G' → (∀ a ∈ fpA ++ fpB, H' a = H a) → Slot1 K G' H' x' oo' fp1' → Slots K G' H' (σ.set i x') (env.set i oo') (fpA ++ (fp1' ++ fpB))
  | _, _, _, _, _, .nil, e => by simp at e
  | _, _, _, 0, oo, .non (fp := fp) h, e => by
    simp at e
    subst e
    exact ⟨[], [], fp, _, rfl, rfl, rfl, fun G' H' x' oo' fp1' s eq h1 => show Slots K G' H' _ _ (fp1' ++ fp) from Slots.mk1 h1 (h.mono s eq)⟩
  | _, _, _, 0, oo, .one (fp1 := fp1) (fp := fp) h1 h, e => by
    simp at e
    subst e
    exact ⟨[], fp1, fp, _, rfl, rfl, ⟨_, rfl, h1⟩, fun G' H' x' oo' fp1' s eq h1 => show Slots K G' H' _ _ (fp1' ++ fp) from Slots.mk1 h1 (h.mono s eq)⟩
  | _, _, _, i + 1, oo, .non (fp := fp) h, e => by
    obtain ⟨fpA, fp1, fpB, x, e1, e2, e3, f⟩ := Slots.split (i := i) h (by simpa using e)
    exact ⟨fpA, fp1, fpB, x, e1, by simpa using e2, e3, fun G' H' x' oo' fp1' s eq h1 => .non (f G' H' x' oo' fp1' s eq h1)⟩
  | _, _, _, i + 1, oo, .one (fp1 := fp0) (fp := fp) h0 h, e => by
    obtain ⟨fpA, fp1, fpB, x, e1, e2, e3, f⟩ := Slots.split (i := i) h (by simpa using e)
    refine ⟨fp0 ++ fpA, fp1, fpB, x, by rw [e1, List.append_assoc], by simpa using e2, e3, fun G' H' x' oo' fp1' s eq h1 => ?_⟩
    rw [List.append_assoc]
    refine .one (h0.mono s fun a m => eq a ?_) (f G' H' x' oo' fp1' s (fun a m => eq a ?_) h1)
    · simp [m]
    · rw [List.append_assoc]
      exact List.mem_append_right _ m

/-- G: what stands for ever; F: what others hold; fp: what the slots take -/
structure Hps (G F H : Hp) (fp : List Addr) : Prop where
  gh : Same G H
  fh : Same F H
  gf : ∀ a, G a ≠ none → F a = none
  nd : fp.Nodup
  pg : ∀ a ∈ fp, G a = none
  pf : ∀ a ∈ fp, F a = none
def Rep (K : Fg) (G F H : Hp) (σ : L2.St) (env : Env) : Prop := ∃ fp, Slots K G H σ env fp ∧ Hps G F H fp
/-- .. and besides the slots a value of its own -/
def RepV (K : Fg) (G F H : Hp) (σ : L2.St) (env : Env) (v : V) (o : O) : Prop := ∃ fp fpv, Slots K G H σ env fp ∧ RepO K G H o v fpv ∧ Hps G F H (fpv ++ fp)

theorem Hps.sub {G F H : Hp} {fp fp' : List Addr} (h : Hps G F H fp) (s : fp'.Sublist fp) : Hps G F H fp' :=
  ⟨h.gh, h.fh, h.gf, h.nd.sublist s, fun a m => h.pg a (s.subset m), fun a m => h.pf a (s.subset m)⟩
theorem Hps.perm {G F H : Hp} {fp fp' : List Addr} (h : Hps G F H fp) (s : fp.Perm fp') : Hps G F H fp' :=
  ⟨h.gh, h.fh, h.gf, s.nodup_iff.mp h.nd, fun a m => h.pg a (s.mem_iff.mpr m), fun a m => h.pf a (s.mem_iff.mpr m)⟩
theorem Rep.len {K : Fg} {G F H : Hp} {σ : L2.St} {env : Env} (h : Rep K G F H σ env) : σ.length = env.length := let ⟨_, a, _⟩ := h; a.len
theorem set_self {α : Type} : ∀ {l : List α} {i : Nat} {x : α}, l[i]? = some x → l.set i x = l
  | [], _, _, h => rfl
  | y :: l, 0, x, h => by
    simp at h
    rw [h]
    rfl
  | y :: l, i + 1, x, h => by
    rw [List.set_cons_succ, set_self (by simpa using h)]
theorem none_of {H : Hp} {a : Addr} (h : ∀ o, H a ≠ some o) : H a = none := by
  cases e : H a with
  | none => rfl
  | some o => exact absurd e (h o)
theorem same_none {G H : Hp} (s : Same G H) {a : Addr} (h : H a = none) : G a = none := s.free h
end Pf
set_option Elab.async false
set_option linter.all false
set_option maxRecDepth 100000
set_option maxHeartbeats 4000000
/-! Pf: readings over data, and what they say of the hand layer's readings. -/
namespace Pf
open PySem PySem.Spec PyProof.Rows L2

/-- an operand: data, or a slot that is looked at when the operation comes -/
inductive Arg where
  | val (x : D)
  | bor (i : Nat)
abbrev RV := Env → (D → Env → Prop) → Prop
abbrev RE := Env → (O → Env → Prop) → Prop
abbrev RT := Env → (Bool → Env → Prop) → Prop
abbrev RP := Env → (Arg → Env → Prop) → Prop
abbrev RA := Env → (List Arg → Env → Prop) → Prop
structure End where
  nx : Env → Prop
  rt : O → Env → Prop
  bk : Env → Prop
  ct : Env → Prop
abbrev RS := End → Env → Prop
def MonoK {α : Type} (r : Env → (α → Env → Prop) → Prop) : Prop := ∀ (env : Env) (Q Q' : α → Env → Prop), (∀ x e, Q x e → Q' x e) → r env Q → r env Q'
def End.le (A B : End) : Prop := (∀ e, A.nx e → B.nx e) ∧ (∀ o e, A.rt o e → B.rt o e) ∧ (∀ e, A.bk e → B.bk e) ∧ (∀ e, A.ct e → B.ct e)
def MonoS (r : RS) : Prop := ∀ (A B : End) (env : Env), A.le B → r A env → r B env
theorem End.le.refl (A : End) : A.le A := ⟨fun _ h => h, fun _ _ h => h, fun _ h => h, fun _ h => h⟩

/-- what an operand stands for -/
def ArgRep (K : Fg) (G : Hp) (σ : L2.St) (v : V) : Arg → Prop
  | .val x => Rp K G v x
  | .bor i => σ[i]? = some (some v)
inductive ArgsRep (K : Fg) (G : Hp) (σ : L2.St) : List V → List Arg → Prop
  | nil : ArgsRep K G σ [] []
  | cons {v : V} {a : Arg} {vs : List V} {as : List Arg} : ArgRep K G σ v a → ArgsRep K G σ vs as → ArgsRep K G σ (v :: vs) (a :: as)
theorem ArgRep.mono {K : Fg} {G G' : Hp} {σ : L2.St} {v : V} {a : Arg} (s : Same G G') (h : ArgRep K G σ v a) : ArgRep K G' σ v a := by
  cases a with
  | val x => exact rp_mono s x h
  | bor i => exact h
theorem ArgsRep.mono {K : Fg} {G G' : Hp} {σ : L2.St} (s : Same G G') : ∀ {vs : List V} {as : List Arg}, ArgsRep K G σ vs as → ArgsRep K G' σ vs as
  | _, _, .nil => .nil
  | _, _, .cons h t => .cons (h.mono s) (ArgsRep.mono s t)

def liftV (K : Fg) (r : RV) : TE := fun σ H Q => ∃ env G F, Rep K G F H σ env ∧ r env fun x env' => ∀ v G' H', Same G G' → Rep K G' F H' σ env' → Rp K G' v x → Q v H'
def liftO (K : Fg) (r : RE) : TE := fun σ H Q => ∃ env G F, Rep K G F H σ env ∧ r env fun o env' => ∀ v G' H', Same G G' → RepV K G' F H' σ env' v o → Q v H'
def liftP (K : Fg) (r : RP) : TE := fun σ H Q => ∃ env G F, Rep K G F H σ env ∧ r env fun a env' => ∀ v G' H', Same G G' → Rep K G' F H' σ env' → ArgRep K G' σ v a → Q v H'
def liftT (K : Fg) (r : RT) : TT := fun σ H Q => ∃ env G F, Rep K G F H σ env ∧ r env fun b env' => ∀ G' H', Same G G' → Rep K G' F H' σ env' → Q b H'
def liftA (K : Fg) (r : RA) : TA := fun σ H Q => ∃ env G F, Rep K G F H σ env ∧ r env fun as env' => ∀ vs G' H', Same G G' → Rep K G' F H' σ env' → ArgsRep K G' σ vs as → Q vs H'
def KeepS (kp : List Nat) (σ σ' : L2.St) : Prop := ∀ j ∈ kp, σ'[j]? = σ[j]?
def liftEnd (K : Fg) (kp : List Nat) (G F : Hp) (σ : L2.St) (E : L2.Ends) : End where
  nx := fun env' => ∀ σ' G' H', Same G G' → KeepS kp σ σ' → Rep K G' F H' σ' env' → E.nx σ' H'
  rt := fun o env' => ∀ v σ' G' H', Same G G' → KeepS kp σ σ' → RepV K G' F H' σ' env' v o → E.rt v H'
  bk := fun env' => ∀ σ' G' H', Same G G' → KeepS kp σ σ' → Rep K G' F H' σ' env' → E.bk σ' H'
  ct := fun env' => ∀ σ' G' H', Same G G' → KeepS kp σ σ' → Rep K G' F H' σ' env' → E.ct σ' H'
def liftS (K : Fg) (kp : List Nat) (r : RS) : TS := fun E σ H => ∃ env G F, Rep K G F H σ env ∧ r (liftEnd K kp G F σ E) env

section
variable {X : Cx}
theorem pe_imp {e : Expr} {t t' : TE} (h : PE X e t) (f : ∀ σ H Q, t' σ H Q → t σ H Q) : PE X e t' := ⟨fun pins s σ H Q I q => h.run pins s σ H Q I (f σ H Q q)⟩
theorem pt_imp {e : Expr} {t t' : TT} (h : PT X e t) (f : ∀ σ H Q, t' σ H Q → t σ H Q) : PT X e t' := ⟨fun pins s σ H Q I q => h.run pins s σ H Q I (f σ H Q q)⟩
theorem pw_imp {e : Expr} {t t' : TT} (h : L2.PW X e t) (f : ∀ σ H Q, t' σ H Q → t σ H Q) : L2.PW X e t' := ⟨fun w pins s σ H Q I q => h.run w pins s σ H Q I (f σ H Q q)⟩
theorem pa_imp {e : List Expr} {t t' : TA} (h : PA X e t) (f : ∀ σ H Q, t' σ H Q → t σ H Q) : PA X e t' := ⟨fun pos pins s σ H Q I q => h.run pos pins s σ H Q I (f σ H Q q)⟩
theorem ps_imp {e : Stmt} {t t' : TS} (h : PS X e t) (f : ∀ E σ H, t' E σ H → t E σ H) : PS X e t' := ⟨fun pins s σ H E I q => h.run pins s σ H E I (f E σ H q)⟩
theorem pss_imp {e : List Stmt} {t t' : TS} (h : PSs X e t) (f : ∀ E σ H, t' E σ H → t E σ H) : PSs X e t' := ⟨fun pins s σ H E I q => h.run pins s σ H E I (f E σ H q)⟩
end

/-- an expression's data; its thing; an operand; a test; arguments; a statement; a block -/
structure QV (X : Cx) (e : Expr) (r : RV) : Prop where
  mono : MonoK r
  run : PE X e (liftV X.K r)
structure QE (X : Cx) (e : Expr) (r : RE) : Prop where
  mono : MonoK r
  run : PE X e (liftO X.K r)
structure QP (X : Cx) (e : Expr) (r : RP) : Prop where
  mono : MonoK r
  run : PE X e (liftP X.K r)
structure QT (X : Cx) (e : Expr) (r : RT) : Prop where
  mono : MonoK r
  run : PT X e (liftT X.K r)
structure QW (X : Cx) (e : Expr) (r : RT) : Prop where
  mono : MonoK r
  run : L2.PW X e (liftT X.K r)
structure QA (X : Cx) (es : List Expr) (r : RA) : Prop where
  mono : MonoK r
  run : PA X es (liftA X.K r)
structure QS (X : Cx) (kp : List Nat) (st : Stmt) (r : RS) : Prop where
  mono : MonoS r
  run : PS X st (liftS X.K kp r)
structure QSs (X : Cx) (kp : List Nat) (st : List Stmt) (r : RS) : Prop where
  mono : MonoS r
  run : PSs X st (liftS X.K kp r)

section
variable {K : Fg} {G F H : Hp} {σ : L2.St} {env : Env}
theorem liftV_of {r : RV} {Q : VK} {Q0 : D → Env → Prop} (m : MonoK r) (rep : Rep K G F H σ env) (h : r env Q0)
    (f : ∀ x env' v G' H', Q0 x env' → Same G G' → Rep K G' F H' σ env' → Rp K G' v x → Q v H') : liftV K r σ H Q := ⟨env, G, F, rep, m _ _ _ (fun x e q v G' H' s r d => f x e v G' H' q s r d) h⟩
theorem liftO_of {r : RE} {Q : VK} {Q0 : O → Env → Prop} (m : MonoK r) (rep : Rep K G F H σ env) (h : r env Q0)
    (f : ∀ x env' v G' H', Q0 x env' → Same G G' → RepV K G' F H' σ env' v x → Q v H') : liftO K r σ H Q := ⟨env, G, F, rep, m _ _ _ (fun x e q v G' H' s d => f x e v G' H' q s d) h⟩
theorem liftP_of {r : RP} {Q : VK} {Q0 : Arg → Env → Prop} (m : MonoK r) (rep : Rep K G F H σ env) (h : r env Q0)
    (f : ∀ x env' v G' H', Q0 x env' → Same G G' → Rep K G' F H' σ env' → ArgRep K G' σ v x → Q v H') : liftP K r σ H Q := ⟨env, G, F, rep, m _ _ _ (fun x e q v G' H' s r d => f x e v G' H' q s r d) h⟩
theorem liftT_of {r : RT} {Q : Bool → Hp → Prop} {Q0 : Bool → Env → Prop} (m : MonoK r) (rep : Rep K G F H σ env) (h : r env Q0)
    (f : ∀ x env' G' H', Q0 x env' → Same G G' → Rep K G' F H' σ env' → Q x H') : liftT K r σ H Q := ⟨env, G, F, rep, m _ _ _ (fun x e q G' H' s r => f x e G' H' q s r) h⟩
theorem liftA_of {r : RA} {Q : List V → Hp → Prop} {Q0 : List Arg → Env → Prop} (m : MonoK r) (rep : Rep K G F H σ env) (h : r env Q0)
    (f : ∀ x env' v G' H', Q0 x env' → Same G G' → Rep K G' F H' σ env' → ArgsRep K G' σ v x → Q v H') : liftA K r σ H Q := ⟨env, G, F, rep, m _ _ _ (fun x e q v G' H' s r d => f x e v G' H' q s r d) h⟩

/-! ### heaps that grow -/
theorem same_upd {H : Hp} {p : Addr} {o : HO} (h : H p = none) : Same H (upd H p o) := fun b x e => by
  rw [upd_ne (ne_of_none e h)]
  exact e
theorem same_upd2 {G H : Hp} {p : Addr} {o : HO} (h : Same G H) : Same (upd G p o) (upd H p o) := fun b x e => by
  unfold upd at *
  split
  · rename_i e1
    rw [if_pos e1] at e
    exact e
  · rename_i e1
    rw [if_neg e1] at e
    exact h b x e
theorem same_updL {G H : Hp} {p : Addr} {o : HO} (h : Same G H) (hp : H p = some o) : Same (upd G p o) H := fun b x e => by
  unfold upd at e
  split at e
  · rename_i e1
    subst e1
    rw [hp]
    exact e
  · exact h b x e
theorem upd_none {H : Hp} {p a : Addr} {o : HO} (h : a ≠ p) (e : H a = none) : upd H p o a = none := by rw [upd_ne h, e]

/-- a new object among what stands for ever -/
theorem Rep.newG (r : Rep K G F H σ env) {p : Addr} {o : HO} (h : H p = none) : Rep K (upd G p o) F (upd H p o) σ env ∧ Same G (upd G p o) := by
  obtain ⟨fp, s, w⟩ := r
  have hG : G p = none := same_none w.gh h
  have hF : F p = none := same_none w.fh h
  have hp : ∀ a ∈ fp, a ≠ p := fun a m e => s.dom a m (by rw [e]; exact h)
  refine ⟨⟨fp, s.mono (same_upd hG) fun a m => upd_ne (hp a m), same_upd2 w.gh, ?_, ?_, w.nd, ?_, w.pf⟩, same_upd hG⟩
  · intro b x e
    rw [upd_ne (fun z => by rw [z, hF] at e; cases e)]
    exact w.fh b x e
  · intro a e
    by_cases z : a = p
    · rw [z]; exact hF
    · rw [upd_ne z] at e
      exact w.gf a e
  · intro a m
    rw [upd_ne (hp a m)]
    exact w.pg a m
/-- a new object that is the expression's own -/
theorem Rep.newO (r : Rep K G F H σ env) {p : Addr} {o : HO} {t : O} (h : H p = none) (hr : RepO K G (upd H p o) t (.ref p) [p]) : RepV K G F (upd H p o) σ env (.ref p) t := by
  obtain ⟨fp, s, w⟩ := r
  have hG : G p = none := same_none w.gh h
  have hF : F p = none := same_none w.fh h
  have hp : ∀ a ∈ fp, a ≠ p := fun a m e => s.dom a m (by rw [e]; exact h)
  refine ⟨fp, [p], s.mono (fun _ _ e => e) fun a m => upd_ne (hp a m), hr, fun b x e => ?_, fun b x e => ?_, w.gf, ?_, ?_, ?_⟩
  · rw [upd_ne (fun z => by rw [z, hG] at e; cases e)]
    exact w.gh b x e
  · rw [upd_ne (fun z => by rw [z, hF] at e; cases e)]
    exact w.fh b x e
  · rw [List.singleton_append, List.nodup_cons]
    exact ⟨fun m => hp p m rfl, w.nd⟩
  · intro a m
    rcases List.mem_append.mp m with m | m
    · rw [List.mem_singleton.mp m]; exact hG
    · exact w.pg a m
  · intro a m
    rcases List.mem_append.mp m with m | m
    · rw [List.mem_singleton.mp m]; exact hF
    · exact w.pf a m
theorem RepV.of (r : Rep K G F H σ env) {v : V} {x : D} (h : Rp K G v x) : RepV K G F H σ env v (.d x) := by
  obtain ⟨fp, s, w⟩ := r
  exact ⟨fp, [], s, ⟨h, rfl⟩, w⟩
theorem RepV.rep {v : V} {o : O} (h : RepV K G F H σ env v o) : Rep K G F H σ env := by
  obtain ⟨fp, fpv, s, r, w⟩ := h
  exact ⟨fp, s, w.sub (List.sublist_append_right _ _)⟩
/-- what is one's own becomes data -/
theorem RepV.freeze {v : V} {xs : List D} (h : RepV K G F H σ env v (.own xs)) : ∃ G', Same G G' ∧ Rep K G' F H σ env ∧ Rp K G' v (.list xs) := by
  obtain ⟨fp, fpv, s, ⟨p, vs, rfl, rfl, hp, hd⟩, w⟩ := h
  have hG : G p = none := w.pg p (by simp)
  have hF : F p = none := w.pf p (by simp)
  have sG : Same G (upd G p (.lst vs)) := same_upd hG
  have nd := w.nd
  rw [List.singleton_append, List.nodup_cons] at nd
  refine ⟨upd G p (.lst vs), sG, ⟨fp, s.mono sG fun a m => rfl, same_updL w.gh hp, w.fh, ?_, nd.2, ?_, fun a m => w.pf a (List.mem_append_right _ m)⟩, .lst (.inl upd_same) (rps_mono sG xs hd)⟩
  · intro a e
    by_cases z : a = p
    · rw [z]; exact hF
    · rw [upd_ne z] at e
      exact w.gf a e
  · intro a m
    rw [upd_ne (fun z => nd.1 (by rw [← z]; exact m))]
    exact w.pg a (List.mem_append_right _ m)
end

def toD (o : O) (k : D → Prop) : Prop := match o with
  | .d x => k x
  | .own xs => k (.list xs)
  | _ => False
theorem toD.mono {o : O} {k k' : D → Prop} (f : ∀ x, k x → k' x) (h : toD o k) : toD o k' := by
  cases o with
  | d x => exact f _ h
  | own xs => exact f _ h
  | dct _ => exact h
  | res _ => exact h
theorem RepV.toD {K : Fg} {G F H : Hp} {σ : L2.St} {env : Env} {v : V} {o : O} {k : D → Prop} (h : RepV K G F H σ env v o) (t : Pf.toD o k) : ∃ x G', k x ∧ Same G G' ∧ Rep K G' F H σ env ∧ Rp K G' v x := by
  cases o with
  | d x =>
    obtain ⟨fp, fpv, s, ⟨hd, rfl⟩, w⟩ := h
    exact ⟨x, G, t, fun _ _ e => e, ⟨fp, s, w⟩, hd⟩
  | own xs =>
    obtain ⟨G', s, r, hd⟩ := h.freeze
    exact ⟨_, G', t, s, r, hd⟩
  | dct _ => exact t.elim
  | res _ => exact t.elim

def rD (r : RE) : RV := fun env Q => r env fun o e => toD o fun x => Q x e
def rO (r : RV) : RE := fun env Q => r env fun x e => Q (.d x) e
def rP (r : RV) : RP := fun env Q => r env fun x e => Q (.val x) e
section
variable {X : Cx} {e : Expr}
theorem QE.v {r : RE} (h : QE X e r) : QV X e (rD r) := by
  refine ⟨fun env Q Q' f q => h.mono _ _ _ (fun o e t => toD.mono (fun x => f x e) t) q, pe_imp h.run ?_⟩
  intro σ H Q ⟨env, G, F, rep, q⟩
  refine liftO_of h.mono rep q fun o env' v G' H' q1 s1 r1 => ?_
  obtain ⟨x, G2, q2, s2, r2, d2⟩ := r1.toD q1
  exact q2 v G2 H' (s1.trans s2) r2 d2
theorem QV.o {r : RV} (h : QV X e r) : QE X e (rO r) := by
  refine ⟨fun env Q Q' f q => h.mono _ _ _ (fun x e t => f _ _ t) q, pe_imp h.run ?_⟩
  intro σ H Q ⟨env, G, F, rep, q⟩
  exact liftV_of h.mono rep q fun x env' v G' H' q1 s1 r1 d1 => q1 v G' H' s1 (.of r1 d1)
theorem QV.p {r : RV} (h : QV X e r) : QP X e (rP r) := by
  refine ⟨fun env Q Q' f q => h.mono _ _ _ (fun x e t => f _ _ t) q, pe_imp h.run ?_⟩
  intro σ H Q ⟨env, G, F, rep, q⟩
  exact liftV_of h.mono rep q fun x env' v G' H' q1 s1 r1 d1 => q1 v G' H' s1 r1 d1
end
end Pf
set_option Elab.async false
set_option linter.all false
set_option maxRecDepth 100000
set_option maxHeartbeats 4000000
/-! Pf: names, constants, operators, comparisons, tests, subscripts. -/
namespace Pf
open PySem PySem.Spec PyProof.Rows L2

/-! ### names -/
section
variable {K : Fg} {G F H : Hp} {σ : L2.St} {env : Env} {i : Nat}
theorem Rep.get {o : O} (r : Rep K G F H σ env) (h : env[i]? = some (some o)) : ∃ v fp, σ[i]? = some (some v) ∧ RepO K G H o v fp := by
  obtain ⟨fp, s, w⟩ := r
  obtain ⟨fpA, fp1, fpB, x, e1, e2, ⟨v, rfl, h1⟩, f⟩ := s.split h
  exact ⟨v, fp1, e2, h1⟩
theorem Rep.getD {x : D} (r : Rep K G F H σ env) (h : env[i]? = some (some (.d x))) : ∃ v, σ[i]? = some (some v) ∧ Rp K G v x := by
  obtain ⟨v, fp, e, h1, _⟩ := r.get h
  exact ⟨v, e, h1⟩
theorem Rep.getO {xs : List D} (r : Rep K G F H σ env) (h : env[i]? = some (some (.own xs))) : ∃ p vs, σ[i]? = some (some (.ref p)) ∧ H p = some (.lst vs) ∧ RpAll K G vs xs := by
  obtain ⟨v, fp, e, p, vs, rfl, rfl, h1, h2⟩ := r.get h
  exact ⟨p, vs, e, h1, h2⟩
theorem Hps.drop {fpA fp1 fpB : List Addr} (w : Hps G F H (fpA ++ (fp1 ++ fpB))) : Hps G F H (fpA ++ fpB) :=
  w.sub (List.Sublist.append (List.Sublist.refl _) (List.sublist_append_right _ _))
/-- a slot's list becomes data -/
theorem Rep.freeze {xs : List D} (r : Rep K G F H σ env) (h : env[i]? = some (some (.own xs))) : ∃ G' v, Same G G' ∧ σ[i]? = some (some v) ∧ Rep K G' F H σ (env.set i (some (.d (.list xs)))) ∧ Rp K G' v (.list xs) := by
  obtain ⟨fp, s, w⟩ := r
  obtain ⟨fpA, fp1, fpB, x, e1, e2, ⟨v, rfl, p, vs, rfl, rfl, hp, hd⟩, f⟩ := s.split h
  subst e1
  have hm : p ∈ fpA ++ ([p] ++ fpB) := by simp
  have hG : G p = none := w.pg p hm
  have hF : F p = none := w.pf p hm
  have sG : Same G (upd G p (.lst vs)) := same_upd hG
  have hd2 : Rp K (upd G p (.lst vs)) (.ref p) (.list xs) := .lst (.inl upd_same) (rps_mono sG xs hd)
  have hs := f (upd G p (.lst vs)) H (some (.ref p)) (some (.d (.list xs))) [] sG (fun _ _ => rfl) ⟨_, rfl, hd2, rfl⟩
  rw [set_self e2] at hs
  have w2 := w.drop
  have hn : ∀ a ∈ fpA ++ fpB, a ≠ p := by
    intro a m e
    subst e
    have nd := w.nd
    rw [List.nodup_append] at nd
    rcases List.mem_append.mp m with m | m
    · exact nd.2.2 a m a (by simp) rfl
    · have := nd.2.1
      rw [List.singleton_append, List.nodup_cons] at this
      exact this.1 m
  refine ⟨upd G p (.lst vs), .ref p, sG, e2, ⟨_, hs, same_updL w.gh hp, w.fh, fun a e => ?_, w2.nd, fun a m => ?_, w2.pf⟩, hd2⟩
  · by_cases z : a = p
    · rw [z]; exact hF
    · rw [upd_ne z] at e
      exact w.gf a e
  · rw [upd_ne (hn a m)]
    exact w2.pg a m
end

def rVar (i : Nat) : RV := fun env Q => match env[i]? with
  | some (some (.d x)) => Q x env
  | some (some (.own xs)) => Q (.list xs) (env.set i (some (.d (.list xs))))
  | _ => False
def rN (i : Nat) : RP := fun env Q => match env[i]? with
  | some (some (.d x)) => Q (.val x) env
  | some (some _) => Q (.bor i) env
  | _ => False
def rC (x : D) : RV := fun env Q => Q x env
section
variable {X : Cx}
theorem rVar_mono {i : Nat} : MonoK (rVar i) := by
  intro env Q Q' f h
  unfold rVar at *
  split at h
  · exact f _ _ h
  · exact f _ _ h
  · exact h.elim
theorem rN_mono {i : Nat} : MonoK (rN i) := by
  intro env Q Q' f h
  unfold rN at *
  split at h
  · exact f _ _ h
  · exact f _ _ h
  · exact h.elim
theorem qv_var (i : Nat) {x : Str} {pos : Pos} (hN : X.N[i]? = some x := by rfl) (hv : Vis X.env.scope x := by first | exact Or.inl rfl | exact Or.inr (Or.inl rfl) | exact Or.inr (Or.inr rfl)) (hd : (x == ("__debug__" : Str)) = false := by decide)
    (hcd : (x == ("__classdict__" : Str)) = false := by decide) : QV X (.Name x pos) (rVar i) := by
  refine ⟨rVar_mono, pe_imp (pe_var hN hv hd hcd) ?_⟩
  intro σ H Q ⟨env, G, F, rep, h⟩
  unfold rVar at h
  split at h
  · rename_i y e
    obtain ⟨v, e2, d⟩ := rep.getD e
    exact ⟨v, e2, h v G H (fun _ _ z => z) rep d⟩
  · rename_i y e
    obtain ⟨G', v, s, e2, r, d⟩ := rep.freeze e
    exact ⟨v, e2, h v G' H s r d⟩
  · exact h.elim
theorem qp_var (i : Nat) {x : Str} {pos : Pos} (hN : X.N[i]? = some x := by rfl) (hv : Vis X.env.scope x := by first | exact Or.inl rfl | exact Or.inr (Or.inl rfl) | exact Or.inr (Or.inr rfl)) (hd : (x == ("__debug__" : Str)) = false := by decide)
    (hcd : (x == ("__classdict__" : Str)) = false := by decide) : QP X (.Name x pos) (rN i) := by
  refine ⟨rN_mono, pe_imp (pe_var hN hv hd hcd) ?_⟩
  intro σ H Q ⟨env, G, F, rep, h⟩
  unfold rN at h
  split at h
  · rename_i y e
    obtain ⟨v, e2, d⟩ := rep.getD e
    exact ⟨v, e2, h v G H (fun _ _ z => z) rep d⟩
  · rename_i y _ e
    obtain ⟨v, fp, e2, d⟩ := rep.get e
    exact ⟨v, e2, h v G H (fun _ _ z => z) rep e2⟩
  · exact h.elim
theorem qv_c {e : Expr} {v : V} {x : D} (h : PE X e (tC v)) (d : Rp X.K (fun _ => none) v x) : QV X e (rC x) := by
  refine ⟨fun env Q Q' f h => f _ _ h, pe_imp h ?_⟩
  intro σ H Q ⟨env, G, F, rep, h⟩
  exact h v G H (fun _ _ z => z) rep (rp_mono (fun _ _ z => by cases z) x d)
theorem qv_int {i : Int} {j : Nat} {pos : Pos} : QV X (.Constant (.int i) j pos) (rC (.int i)) := qv_c pe_int (.int i)
theorem qv_bl {b : Bool} {j : Nat} {pos : Pos} : QV X (.Constant (.bool b) j pos) (rC (.bool b)) := qv_c pe_bl (.bl b)
theorem qv_non {j : Nat} {pos : Pos} : QV X (.Constant .none j pos) (rC .none) := qv_c pe_non .non
theorem qv_str {x : Str} {j : Nat} {pos : Pos} : QV X (.Constant (.str x) j pos) (rC (.str x)) := qv_c pe_str (.str x)
/-- a module's constant -/
theorem qv_glob {x : Str} {v : V} {u : Value} {y : D} {pos : Pos} (hm : X.mg x = some u) (r : RelV v u) (d : Rp X.K (fun _ => none) v y) (hg : Gl X x := by rfl) (hd : (x == ("__debug__" : Str)) = false := by decide) : QV X (.Name x pos) (rC y) := qv_c (pe_glob hg hm r hd) d
end

/-! ### operands -/
def dref (e : Env) (a : Arg) (k : D → Prop) : Prop := match a with
  | .val x => k x
  | .bor i => match e[i]? with
    | some (some (.d x)) => k x
    | some (some (.own xs)) => k (.list xs)
    | _ => False
theorem dref.mono {e : Env} {a : Arg} {k k' : D → Prop} (f : ∀ x, k x → k' x) (h : dref e a k) : dref e a k' := by
  unfold dref at *
  split at h
  · exact f _ h
  · split at h
    · exact f _ h
    · exact f _ h
    · exact h.elim
/-- a value that is read: data, or a list of one's own -/
def Pk (K : Fg) (G H : Hp) (v : V) (x : D) : Prop := Rp K G v x ∨ ∃ p vs xs, v = .ref p ∧ x = .list xs ∧ H p = some (.lst vs) ∧ RpAll K G vs xs
section
variable {K : Fg} {G F H : Hp} {σ : L2.St} {env : Env}
theorem dref_pk {a : Arg} {v : V} {k : D → Prop} (r : Rep K G F H σ env) (ha : ArgRep K G σ v a) (h : dref env a k) : ∃ x, Pk K G H v x ∧ k x := by
  unfold dref at h
  split at h
  · exact ⟨_, .inl ha, h⟩
  · rename_i i
    have ha : σ[i]? = some (some v) := ha
    split at h
    · rename_i y e
      obtain ⟨v2, e2, d⟩ := r.getD e
      rw [ha] at e2
      cases e2
      exact ⟨_, .inl d, h⟩
    · rename_i y e
      obtain ⟨p, vs, e2, d1, d2⟩ := r.getO e
      rw [ha] at e2
      cases e2
      exact ⟨_, .inr ⟨p, vs, _, rfl, rfl, d1, d2⟩, h⟩
    · exact h.elim
theorem Rep.gh (r : Rep K G F H σ env) : Same G H := let ⟨_, _, w⟩ := r; w.gh
theorem Pk.dp {v : V} {x : D} (h : Pk K G H v x) (s : Same G H) : Dp K H v x := by
  rcases h with h | ⟨p, vs, xs, rfl, rfl, h1, h2⟩
  · exact rp_dp x (rp_mono s x h)
  · exact .lst (.inl (.inl h1)) (rps_dp xs (rps_mono s xs h2))
theorem Pk.int {v : V} {i : Int} (h : Pk K G H v (.int i)) : v = .int i := by
  rcases h with h | ⟨p, vs, xs, _, e, _⟩
  · cases h; rfl
  · cases e
theorem Pk.str {v : V} {i : Str} (h : Pk K G H v (.str i)) : v = .str i := by
  rcases h with h | ⟨p, vs, xs, _, e, _⟩
  · cases h; rfl
  · cases e
theorem Pk.bl {v : V} {i : Bool} (h : Pk K G H v (.bool i)) : v = .bl i := by
  rcases h with h | ⟨p, vs, xs, _, e, _⟩
  · cases h; rfl
  · cases e
theorem Pk.lst {v : V} {xs : List D} (h : Pk K G H v (.list xs)) (s : Same G H) : ∃ p vs, v = .ref p ∧ Rd H p (.lst vs) ∧ RpAll K G vs xs := by
  rcases h with h | ⟨p, vs, ys, rfl, e, h1, h2⟩
  · cases h with
    | lst h t => exact ⟨_, _, rfl, rd_mono s h, t⟩
  · cases e
    exact ⟨p, vs, rfl, .inl h1, h2⟩
theorem Pk.tup {v : V} {xs : List D} (h : Pk K G H v (.tuple xs)) : ∃ p vs, v = .ref p ∧ TupQ K G p vs ∧ RpAll K G vs xs := by
  rcases h with h | ⟨p, vs, ys, _, e, _⟩
  · cases h with
    | tup h t => exact ⟨_, _, rfl, h, t⟩
  · cases e
theorem Pk.non {v : V} (h : Pk K G H v .none) : v = .non := by
  rcases h with h | ⟨p, vs, xs, _, e, _⟩
  · cases h; rfl
  · cases e
end

/-! ### binary operators -/
abbrev F2 := D → D → (O → Prop) → Prop
def F2.Mono (f : F2) : Prop := ∀ x y (k k' : O → Prop), (∀ o, k o → k' o) → f x y k → f x y k'
def F2.Ok (K : Fg) (f : F2) (r : R2) : Prop := ∀ {G F H : Hp} {σ : L2.St} {env : Env} {x y : D} {v u : V} {k : O → Prop} {Q : VK}, Rep K G F H σ env → Pk K G H v x → Pk K G H u y → f x y k →
  (∀ o w G' H', k o → Same G G' → RepV K G' F H' σ env w o → Q w H') → r v u H Q
def rOp (f : F2) (ra rb : RP) : RE := fun env Q => ra env fun a e1 => rb e1 fun b e2 => dref e2 a fun x => dref e2 b fun y => f x y fun o => Q o e2
theorem rOp_mono {f : F2} {ra rb : RP} (hf : f.Mono) (ma : MonoK ra) (mb : MonoK rb) : MonoK (rOp f ra rb) := fun env Q Q' g h =>
  ma _ _ _ (fun a e1 h => mb _ _ _ (fun b e2 h => dref.mono (fun x h => dref.mono (fun y h => hf _ _ _ _ (fun o => g o e2) h) h) h) h) h
theorem tOp_of {K : Fg} {f : F2} {r : R2} {ra rb : RP} (ok : f.Ok K r) (hf : f.Mono) (ma : MonoK ra) (mb : MonoK rb) (σ : L2.St) (H : Hp) (Q : VK) (h : liftO K (rOp f ra rb) σ H Q) : tOp r (liftP K ra) (liftP K rb) σ H Q := by
  obtain ⟨env, G, F, rep, h⟩ := h
  refine liftP_of ma rep h fun a e1 v G1 H1 h1 s1 rep1 d1 => ?_
  refine liftP_of mb rep1 h1 fun b e2 u G2 H2 h2 s2 rep2 d2 => ?_
  obtain ⟨x, p1, h3⟩ := dref_pk rep2 (d1.mono s2) h2
  obtain ⟨y, p2, h4⟩ := dref_pk rep2 d2 h3
  exact ok rep2 p1 p2 h4 fun o w G' H' k s r => k w G' H' ((s1.trans s2).trans s) r
theorem qe_op {X : Cx} {op : Operator} {f : F2} {r : R2} {a b : Expr} {ra rb : RP} {pos : Pos} (ho : OpR X (binaryOp op) r) (ok : f.Ok X.K r) (hf : f.Mono) (ha : QP X a ra) (hb : QP X b rb) : QE X (.BinOp a op b pos) (rOp f ra rb) :=
  ⟨rOp_mono hf ha.mono hb.mono, pe_imp (pe_op ho ha.run hb.run) (tOp_of ok hf ha.mono hb.mono)⟩

theorem OpR.or {X : Cx} {f : Value → Value → Sem Value} {r r' : R2} (h : OpR X f r) (h' : OpR X f r') : OpR X f (fun x y H Q => r x y H Q ∨ r' x y H Q) := by
  intro pins s σ H x y v u Q I rx ry q
  rcases q with q | q
  · exact h pins s σ H x y v u Q I rx ry q
  · exact h' pins s σ H x y v u Q I rx ry q
/-- list + list, both tracked or the script -/
def rCatR : R2 := fun x y H Q => ∃ l b xs zs, x = .ref l ∧ y = .ref b ∧ Rd H l (.lst xs) ∧ Rd H b (.lst zs) ∧ xs.length + zs.length ≤ sizeLine ∧ ∀ p, H p = none → Q (.ref p) (upd H p (.lst (xs ++ zs)))
theorem lstR {X : Cx} {pins : List (Addr × Obj)} {σ : L2.St} {H : Hp} {s : Shared} {l : Addr} {xs : List V} (I : Inv X pins σ H s) (hH : Rd H l (.lst xs)) : xs.length ≤ sizeLine ∧ ∃ (its : List Value) (n : Nat), Vals xs its ∧ xs.length = its.length ∧ s.heap.get? l = some { cls := .type "list", data := .seq its.toArray n } := by
  obtain ⟨z, its, n, r, e⟩ := hH.ok I.hok
  exact ⟨z, its, n, r, r.length, e⟩
theorem op_catR {X : Cx} : OpR X (binaryOp .Add) rCatR := by
  intro pins s σ H x y v u Q I rx ry h
  obtain ⟨l, b, xs, zs, rfl, rfl, hH, hB, hz, q⟩ := h
  cases rx
  cases ry
  obtain ⟨z, its, n, r, hl, e⟩ := lstR I hH
  obtain ⟨z2, its2, n2, r2, hl2, e2⟩ := lstR I hB
  refine PySem.P.add_list e e2 ?_ (by rw [List.size_toArray, List.size_toArray]; omega)
  have ea : its.toArray ++ its2.toArray = (its ++ its2).toArray := by simp
  rw [ea]
  exact ⟨.ref _, _, I.lnew (t' := s.toks) (r.append r2) (by rw [List.length_append]; omega), rfl, q _ I.fresh⟩
def rAddS : R2 := fun x y H Q => ∃ i j, x = .str i ∧ y = .str j ∧ i.length + j.length ≤ sizeLine ∧ Q (.str (i ++ j)) H
def rAdd (K : Fg) : R2 := fun x y H Q => (rI0 fun i j => .int (i + j)) x y H Q ∨ rAddS x y H Q ∨ rCatR x y H Q ∨ rCatF K x y H Q
theorem op_addAny {X : Cx} : OpR X (binaryOp .Add) (rAdd X.K) := OpR.or op_add (OpR.or op_add_str (OpR.or op_catR op_catF))
def dAdd : F2 := fun x y k => match x, y with
  | .int i, .int j => k (.d (.int (i + j)))
  | .str a, .str b => a.length + b.length ≤ sizeLine ∧ k (.d (.str (a ++ b)))
  | .list a, .list b => a.length + b.length ≤ sizeLine ∧ k (.own (a ++ b))
  | .tuple a, .tuple b => a.length + b.length ≤ sizeLine ∧ k (.d (.tuple (a ++ b)))
  | _, _ => False
theorem dAdd_mono : dAdd.Mono := by
  intro x y k k' f h
  unfold dAdd at *
  split at h
  · exact f _ h
  · exact ⟨h.1, f _ h.2⟩
  · exact ⟨h.1, f _ h.2⟩
  · exact ⟨h.1, f _ h.2⟩
  · exact h.elim
theorem RepV.d {K : Fg} {G F H : Hp} {σ : L2.St} {env : Env} {v : V} {x : D} (r : Rep K G F H σ env) (h : Rp K G v x) : RepV K G F H σ env v (.d x) := .of r h
/-- a new tuple, a new list -/
theorem Rep.tup {K : Fg} {G F H : Hp} {σ : L2.St} {env : Env} {p : Addr} {o : Obj} {vs : List V} {xs : List D} (r : Rep K G F H σ env) (h : H p = none) (ho : o.dict = none) (d : RpAll K G vs xs) : Same G (upd G p (.frz o (.tup vs))) ∧ RepV K (upd G p (.frz o (.tup vs))) F (upd H p (.frz o (.tup vs))) σ env (.ref p) (.d (.tuple xs)) :=
  ⟨(r.newG h).2, .of (r.newG h).1 (.tup (.inl ⟨o, upd_same, ho⟩) (rps_mono (r.newG (o := .frz o (.tup vs)) h).2 xs d))⟩
theorem Rep.lst {K : Fg} {G F H : Hp} {σ : L2.St} {env : Env} {p : Addr} {vs : List V} {xs : List D} (r : Rep K G F H σ env) (h : H p = none) (d : RpAll K G vs xs) : RepV K G F (upd H p (.lst vs)) σ env (.ref p) (.own xs) :=
  r.newO h ⟨p, vs, rfl, rfl, upd_same, d⟩
theorem dAdd_ok {K : Fg} : dAdd.Ok K (rAdd K) := by
  intro G F H σ env x y v u k Q rep px py h q
  have idS : Same G G := fun _ _ z => z
  unfold dAdd at h
  split at h
  · exact .inl ⟨_, _, px.int, py.int, q _ _ G H h idS (.of rep (.int _))⟩
  · exact .inr (.inl ⟨_, _, px.str, py.str, h.1, q _ _ G H h.2 idS (.of rep (.str _))⟩)
  · obtain ⟨l, vs, rfl, h1, d1⟩ := px.lst rep.gh
    obtain ⟨b, ws, rfl, h2, d2⟩ := py.lst rep.gh
    refine .inr (.inr (.inl ⟨l, b, vs, ws, rfl, rfl, h1, h2, by rw [rps_len d1, rps_len d2]; exact h.1, fun p hp => ?_⟩))
    exact q _ _ G _ h.2 idS (rep.lst hp (rps_append d1 d2))
  · obtain ⟨l, vs, rfl, h1, d1⟩ := px.tup
    obtain ⟨b, ws, rfl, h2, d2⟩ := py.tup
    refine .inr (.inr (.inr ⟨l, b, vs, ws, rfl, rfl, (tq_mono rep.gh h1).sq, (tq_mono rep.gh h2).sq, by rw [rps_len d1, rps_len d2]; exact h.1, fun e => ?_, fun e e2 => ?_, fun e e2 p o ho hp => ?_⟩))
    · subst e
      cases d1
      exact q _ _ G H h.2 idS (.of rep (.tup h2 d2))
    · subst e2
      cases d2
      rw [List.append_nil] at h
      exact q _ _ G H h.2 idS (.of rep (.tup h1 d1))
    · have r2 := rep.tup hp ho (rps_append d1 d2)
      exact q _ _ _ _ h.2 r2.1 r2.2
  · exact h.elim
theorem qe_add {X : Cx} {a b : Expr} {ra rb : RP} {pos : Pos} (ha : QP X a ra) (hb : QP X b rb) : QE X (.BinOp a .Add b pos) (rOp dAdd ra rb) := qe_op op_addAny dAdd_ok dAdd_mono ha hb

/-- two ints -/
def dI (C : Int → Int → Prop) (g : Int → Int → Int) : F2 := fun x y k => match x, y with
  | .int i, .int j => C i j ∧ k (.d (.int (g i j)))
  | _, _ => False
theorem dI_mono {C : Int → Int → Prop} {g : Int → Int → Int} : (dI C g).Mono := by
  intro x y k k' f h
  unfold dI at *
  split at h
  · exact ⟨h.1, f _ h.2⟩
  · exact h.elim
theorem dI_ok {K : Fg} {C : Int → Int → Prop} {g : Int → Int → Int} : (dI C g).Ok K (rI C fun i j => .int (g i j)) := by
  intro G F H σ env x y v u k Q rep px py h q
  unfold dI at h
  split at h
  · exact ⟨_, _, px.int, py.int, h.1, q _ _ G H h.2 (fun _ _ z => z) (.of rep (.int _))⟩
  · exact h.elim
/-- no condition -/
def dI0 (g : Int → Int → Int) : F2 := fun x y k => match x, y with
  | .int i, .int j => k (.d (.int (g i j)))
  | _, _ => False
theorem dI0_mono {g : Int → Int → Int} : (dI0 g).Mono := by
  intro x y k k' f h
  unfold dI0 at *
  split at h
  · exact f _ h
  · exact h.elim
theorem dI0_ok {K : Fg} {g : Int → Int → Int} : (dI0 g).Ok K (rI0 fun i j => .int (g i j)) := by
  intro G F H σ env x y v u k Q rep px py h q
  unfold dI0 at h
  split at h
  · exact ⟨_, _, px.int, py.int, q _ _ G H h (fun _ _ z => z) (.of rep (.int _))⟩
  · exact h.elim
def CDivA (_ j : Int) : Prop := j ≠ 0 ∧ j.natAbs.log2 < 9000
def CShl (i j : Int) : Prop := 0 ≤ j ∧ (Builtin.Int.intBits i : Int) + j ≤ 2 ^ 27
def CPowA (i j : Int) : Prop := 0 ≤ j ∧ (Builtin.Int.intBits i : Int) * j ≤ 2 ^ 27
section
variable {X : Cx} {a b : Expr} {ra rb : RP} {pos : Pos}
theorem op_fdivA : OpR X (binaryOp .FloorDiv) (rI CDivA fun i j => .int (i.fdiv j)) := opI fun _ _ _ _ _ _ _ hc q => floordiv_int hc.1 q (.inl (PyProof.noPylong_of_log2 hc.2))
theorem op_mulA : OpR X (binaryOp .Mult) (rI IntMulOk fun i j => .int (i * j)) := opI fun _ _ _ _ _ _ _ hc q => mul_int q hc
theorem op_powA : OpR X (binaryOp .Pow) (rI CPowA fun i j => .int (i ^ j.toNat)) := opI fun _ _ _ _ _ _ _ hc q => pow_int hc.1 hc.2 q
theorem op_shlA : OpR X (binaryOp .LShift) (rI CShl fun i j => .int (i * 2 ^ j.toNat)) := opI fun _ _ _ _ _ _ _ hc q => lshift_int hc.1 hc.2 q
theorem qe_sub (ha : QP X a ra) (hb : QP X b rb) : QE X (.BinOp a .Sub b pos) (rOp (dI0 fun i j => i - j) ra rb) := qe_op op_sub dI0_ok dI0_mono ha hb
theorem qe_fdiv (ha : QP X a ra) (hb : QP X b rb) : QE X (.BinOp a .FloorDiv b pos) (rOp (dI CDivA Int.fdiv) ra rb) := qe_op op_fdivA dI_ok dI_mono ha hb
theorem qe_mod (ha : QP X a ra) (hb : QP X b rb) : QE X (.BinOp a .Mod b pos) (rOp (dI (fun _ j => j ≠ 0) Int.fmod) ra rb) := qe_op op_modN dI_ok dI_mono ha hb
theorem qe_pow (ha : QP X a ra) (hb : QP X b rb) : QE X (.BinOp a .Pow b pos) (rOp (dI CPowA fun i j => i ^ j.toNat) ra rb) := qe_op op_powA dI_ok dI_mono ha hb
theorem qe_shl (ha : QP X a ra) (hb : QP X b rb) : QE X (.BinOp a .LShift b pos) (rOp (dI CShl fun i j => i * 2 ^ j.toNat) ra rb) := qe_op op_shlA dI_ok dI_mono ha hb
theorem qe_shr (ha : QP X a ra) (hb : QP X b rb) : QE X (.BinOp a .RShift b pos) (rOp (dI (fun _ j => 0 ≤ j) fun i j => i / 2 ^ j.toNat) ra rb) := qe_op op_shr dI_ok dI_mono ha hb
theorem qe_band (ha : QP X a ra) (hb : QP X b rb) : QE X (.BinOp a .BitAnd b pos) (rOp (dI0 Builtin.bitAnd) ra rb) := qe_op op_and dI0_ok dI0_mono ha hb
end
end Pf
namespace Pf
open PySem PySem.Spec PyProof.Rows L2
/-! ### times -/
def rRepR : R2 := fun x y H Q => ∃ l k xs, x = .ref l ∧ y = .int k ∧ Rd H l (.lst xs) ∧ -(2 ^ 63) ≤ k ∧ k < 2 ^ 63 ∧ xs.length * k.toNat ≤ sizeLine ∧
  ∀ p, H p = none → Q (.ref p) (upd H p (.lst (List.replicate k.toNat xs).flatten))
theorem rps_flat {K : Fg} {G : Hp} {xs : List D} {vs : List V} (h : RpAll K G vs xs) : ∀ n : Nat, RpAll K G (List.replicate n vs).flatten (List.replicate n xs).flatten
  | 0 => .nil
  | n + 1 => by
    rw [List.replicate_succ, List.replicate_succ, List.flatten_cons, List.flatten_cons]
    exact rps_append h (rps_flat h n)
def rMulA (K : Fg) : R2 := fun x y H Q => (rI IntMulOk fun i j => .int (i * j)) x y H Q ∨ rRep x y H Q ∨ rRepF K x y H Q
theorem op_mulAny {X : Cx} : OpR X (binaryOp .Mult) (rMulA X.K) := OpR.or op_mulA (OpR.or op_rep op_repF)
/-- times: two ints; a list that was just made, a tuple, times an int -/
def dMul : F2 := fun x y k => match x, y with
  | .int i, .int j => IntMulOk i j ∧ k (.d (.int (i * j)))
  | .tuple xs, .int n => xs ≠ [] ∧ 2 ≤ n ∧ n ≤ 1000 ∧ xs.length ≤ 1000 ∧ k (.d (.tuple (List.replicate n.toNat xs).flatten))
  | _, _ => False
theorem dMul_mono : dMul.Mono := by
  intro x y k k' f h
  unfold dMul at *
  split at h
  · exact ⟨h.1, f _ h.2⟩
  · exact ⟨h.1, h.2.1, h.2.2.1, h.2.2.2.1, f _ h.2.2.2.2⟩
  · exact h.elim
theorem dMul_ok {K : Fg} : dMul.Ok K (rMulA K) := by
  intro G F H σ env x y v u k Q rep px py h q
  have idS : Same G G := fun _ _ z => z
  unfold dMul at h
  split at h
  · exact .inl ⟨_, _, px.int, py.int, h.1, q _ _ G H h.2 idS (.of rep (.int _))⟩
  · obtain ⟨l, vs, rfl, h1, d1⟩ := px.tup
    obtain ⟨h2, h3, h4, h5, h6⟩ := h
    refine .inr (.inr ⟨l, _, vs, rfl, py.int, (tq_mono rep.gh h1).sq, fun e => h2 ?_, h3, h4, by rw [rps_len d1]; exact h5, fun p o ho hp => ?_⟩)
    · subst e
      cases d1
      rfl
    · rename_i n
      have r2 := rep.tup hp ho (rps_flat d1 n.toNat)
      exact q _ _ _ _ h6 r2.1 r2.2
  · exact h.elim
theorem qe_mul {X : Cx} {a b : Expr} {ra rb : RP} {pos : Pos} (ha : QP X a ra) (hb : QP X b rb) : QE X (.BinOp a .Mult b pos) (rOp dMul ra rb) := qe_op op_mulAny dMul_ok dMul_mono ha hb
/-- [a, ..] * n: the display and the list that it becomes -/
def rRepL (ra : RE) (rb : RV) : RE := fun env Q => ra env fun o e1 => rb e1 fun y e2 => match o, y with
  | .own xs, .int n => -(2 ^ 63) ≤ n ∧ n < 2 ^ 63 ∧ xs.length * n.toNat ≤ sizeLine ∧ Q (.own (List.replicate n.toNat xs).flatten) e2
  | _, _ => False
theorem qe_repL {X : Cx} {a b : Expr} {ra : RE} {rb : RV} {pos : Pos} (ha : QE X a ra) (hb : QV X b rb) : QE X (.BinOp a .Mult b pos) (rRepL ra rb) := by
  refine ⟨?_, pe_imp (pe_op op_rep ha.run hb.run) ?_⟩
  · intro env Q Q' f h
    refine ha.mono _ _ _ (fun o e h => hb.mono _ _ _ (fun y e h => ?_) h) h
    split at h
    · exact ⟨h.1, h.2.1, h.2.2.1, f _ _ h.2.2.2⟩
    · exact h.elim
  · intro σ H Q ⟨env, G, F, rep, h⟩
    refine liftO_of ha.mono rep h fun o e1 v G1 H1 h1 s1 rv1 => ?_
    obtain ⟨fp, fpv, sl, ro, w⟩ := rv1
    cases o with
    | own xs =>
      obtain ⟨p, vs, rfl, rfl, hp, hd⟩ := ro
      -- the list is held as somebody else's while the right side runs
      have hF : ∀ a, upd F p (.lst vs) a ≠ none → a = p ∨ F a ≠ none := by
        intro a e
        by_cases z : a = p
        · exact .inl z
        · rw [upd_ne z] at e
          exact .inr e
      have nd := w.nd
      rw [List.singleton_append, List.nodup_cons] at nd
      have rep1 : Rep X.K G1 (upd F p (.lst vs)) H1 σ e1 := by
        refine ⟨fp, sl, w.gh, same_updL w.fh hp, fun a e => ?_, nd.2, fun a m => w.pg a (by simp [m]), fun a m => ?_⟩
        · have z : a ≠ p := fun z => e (by rw [z]; exact w.pg p (by simp))
          rw [upd_ne z]
          exact w.gf a e
        · have z : a ≠ p := fun z => nd.1 (by rw [← z]; exact m)
          rw [upd_ne z]
          exact w.pf a (by simp [m])
      refine liftV_of hb.mono rep1 h1 fun y e2 u G2 H2 h2 s2 rep2 d2 => ?_
      split at h2
      · rename_i xs' n e
        cases e
        cases d2
        obtain ⟨c1, c2, c3, h3⟩ := h2
        obtain ⟨fp2, sl2, w2⟩ := rep2
        have hp2 : H2 p = some (.lst vs) := w2.fh p _ upd_same
        refine ⟨p, n, vs, rfl, rfl, hp2, c1, c2, by rw [rps_len hd]; exact c3, fun q hq => ?_⟩
        have rep3 : Rep X.K G2 F H2 σ e2 := by
          refine ⟨fp2, sl2, w2.gh, fun a o e => w2.fh a o ?_, fun a e => ?_, w2.nd, w2.pg, fun a m => ?_⟩
          · have z : a ≠ p := fun z => by
              rw [z, w.pf p (by simp)] at e
              cases e
            rw [upd_ne z]
            exact e
          · have := w2.gf a e
            by_cases z : a = p
            · rw [z]; exact w.pf p (by simp)
            · rw [upd_ne z] at this
              exact this
          · have := w2.pf a m
            by_cases z : a = p
            · rw [z]; exact w.pf p (by simp)
            · rw [upd_ne z] at this
              exact this
        exact h3 _ G2 _ (s1.trans s2) (rep3.lst hq (rps_flat (rps_mono s2 xs hd) _))
      · exact h2.elim
    | d x =>
      have rep1 : Rep X.K G1 F H1 σ e1 := ⟨fp, sl, w.sub (List.sublist_append_right _ _)⟩
      exact liftV_of hb.mono rep1 h1 fun y e2 u G2 H2 h2 s2 rep2 d2 => h2.elim
    | dct x =>
      have rep1 : Rep X.K G1 F H1 σ e1 := ⟨fp, sl, w.sub (List.sublist_append_right _ _)⟩
      exact liftV_of hb.mono rep1 h1 fun y e2 u G2 H2 h2 s2 rep2 d2 => h2.elim
    | res x =>
      have rep1 : Rep X.K G1 F H1 σ e1 := ⟨fp, sl, w.sub (List.sublist_append_right _ _)⟩
      exact liftV_of hb.mono rep1 h1 fun y e2 u G2 H2 h2 s2 rep2 d2 => h2.elim

/-! ### comparisons -/
abbrev B2 := D → D → (Bool → Prop) → Prop
def B2.Mono (f : B2) : Prop := ∀ x y (k k' : Bool → Prop), (∀ o, k o → k' o) → f x y k → f x y k'
def B2.Ok (K : Fg) (f : B2) (r : R2) : Prop := ∀ {G H : Hp} {x y : D} {v u : V} {k : Bool → Prop} {Q : VK}, Same G H → Pk K G H v x → Pk K G H u y → f x y k → (∀ b, k b → Q (.bl b) H) → r v u H Q
def rCmp (f : B2) (ra rb : RP) : RT := fun env Q => ra env fun a e1 => rb e1 fun b e2 => dref e2 a fun x => dref e2 b fun y => f x y fun o => Q o e2
def rTV (r : RT) : RV := fun env Q => r env fun b e => Q (.bool b) e
theorem rCmp_mono {f : B2} {ra rb : RP} (hf : f.Mono) (ma : MonoK ra) (mb : MonoK rb) : MonoK (rCmp f ra rb) := fun env Q Q' g h =>
  ma _ _ _ (fun a e1 h => mb _ _ _ (fun b e2 h => dref.mono (fun x h => dref.mono (fun y h => hf _ _ _ _ (fun o => g o e2) h) h) h) h) h
theorem tCmp_of {K : Fg} {f : B2} {r : R2} {ra rb : RP} (ok : f.Ok K r) (hf : f.Mono) (ma : MonoK ra) (mb : MonoK rb) {G F H : Hp} {σ : L2.St} {env : Env} {Q0 : Bool → Env → Prop} {Q : VK} (rep : Rep K G F H σ env) (h : rCmp f ra rb env Q0)
    (q : ∀ b e G' H', Q0 b e → Same G G' → Rep K G' F H' σ e → Q (.bl b) H') : tOp r (liftP K ra) (liftP K rb) σ H Q := by
  refine liftP_of ma rep h fun a e1 v G1 H1 h1 s1 rep1 d1 => ?_
  refine liftP_of mb rep1 h1 fun b e2 u G2 H2 h2 s2 rep2 d2 => ?_
  obtain ⟨x, p1, h3⟩ := dref_pk rep2 (d1.mono s2) h2
  obtain ⟨y, p2, h4⟩ := dref_pk rep2 d2 h3
  exact ok rep2.gh p1 p2 h4 fun b k => q b e2 G2 H2 k (s1.trans s2) rep2
section
variable {X : Cx} {op : CmpOp} {f : B2} {r : R2} {a b : Expr} {ra rb : RP} {pos : Pos}
theorem qt_cmp (ho : OpR X (compareOp op) r) (ok : f.Ok X.K r) (hf : f.Mono) (ha : QP X a ra) (hb : QP X b rb) (hm : behindInMarks op b = false) : QT X (.Compare a [op] [b] pos) (rCmp f ra rb) :=
  ⟨rCmp_mono hf ha.mono hb.mono, pt_imp (pt_cmpR ho ha.run hb.run hm) fun σ H Q ⟨env, G, F, rep, h⟩ => tCmp_of ok hf ha.mono hb.mono rep h fun b e G' H' k s r => ⟨b, rfl, k G' H' s r⟩⟩
theorem qv_cmp (ho : OpR X (compareOp op) r) (ok : f.Ok X.K r) (hf : f.Mono) (ha : QP X a ra) (hb : QP X b rb) (hm : behindInMarks op b = false) : QV X (.Compare a [op] [b] pos) (rTV (rCmp f ra rb)) :=
  ⟨fun env Q Q' g h => rCmp_mono hf ha.mono hb.mono _ _ _ (fun b e => g _ _) h, pe_imp (pe_cmpR ho ha.run hb.run hm) fun σ H Q ⟨env, G, F, rep, h⟩ => tCmp_of ok hf ha.mono hb.mono rep h fun b e G' H' k s r => k _ G' H' s r (.bl b)⟩
end
/-- equal: scalars of one kind at once, all else by the model's own equality of data -/
def dEq (neg : Bool) : B2 := fun x y k => match x, y with
  | .int i, .int j => k (if neg then !decide (i = j) else decide (i = j))
  | x, y => SeqAt.shaped x = true ∧ SeqAt.shaped y = true ∧ k (if neg then !PyData.eqv x y else PyData.eqv x y)
theorem dEq_mono {neg : Bool} : (dEq neg).Mono := by
  intro x y k k' f h
  unfold dEq at *
  split at h
  · exact f _ h
  · exact ⟨h.1, h.2.1, f _ h.2.2⟩
theorem dEq_ok {K : Fg} : (dEq false).Ok K (rEqD K) := by
  intro G H x y v u k Q s px py h q
  unfold dEq at h
  split at h
  · exact ⟨_, _, px.dp s, py.dp s, rfl, rfl, by
      show Q (.bl (PyData.eqv (.int _) (.int _))) H
      rw [PyData.eqv, Bool.beq_eq_decide_eq]
      exact q _ h⟩
  · exact ⟨_, _, px.dp s, py.dp s, h.1, h.2.1, q _ h.2.2⟩
theorem dNe_ok {K : Fg} : (dEq true).Ok K (rNeD K) := by
  intro G H x y v u k Q s px py h q
  unfold dEq at h
  split at h
  · exact ⟨_, _, px.dp s, py.dp s, rfl, rfl, by
      show Q (.bl (!PyData.eqv (.int _) (.int _))) H
      rw [PyData.eqv, Bool.beq_eq_decide_eq]
      exact q _ h⟩
  · exact ⟨_, _, px.dp s, py.dp s, h.1, h.2.1, q _ h.2.2⟩
def dOrd (p : Int → Int → Bool) : B2 := fun x y k => match x, y with
  | .int i, .int j => k (p i j)
  | _, _ => False
theorem dOrd_mono {p : Int → Int → Bool} : (dOrd p).Mono := by
  intro x y k k' f h
  unfold dOrd at *
  split at h
  · exact f _ h
  · exact h.elim
theorem dOrd_ok {K : Fg} {p : Int → Int → Bool} : (dOrd p).Ok K (rI0 fun i j => .bl (p i j)) := by
  intro G H x y v u k Q s px py h q
  unfold dOrd at h
  split at h
  · exact ⟨_, _, px.int, py.int, q _ h⟩
  · exact h.elim
/-- is None -/
def isNone : D → Bool
  | .none => true
  | _ => false
def dIsN (neg : Bool) : B2 := fun x y k => match y with
  | .none => k (if neg then !isNone x else isNone x)
  | _ => False
theorem dIsN_mono {neg : Bool} : (dIsN neg).Mono := by
  intro x y k k' f h
  unfold dIsN at *
  split at h
  · exact f _ h
  · exact h.elim
theorem pk_isNone {K : Fg} {G H : Hp} {v : V} {x : D} (h : Pk K G H v x) : decide (v = .non) = isNone x := by
  rcases h with h | ⟨p, vs, xs, rfl, rfl, _⟩
  · cases h <;> rfl
  · rfl
theorem dIsN_ok {K : Fg} : (dIsN false).Ok K (fun x y H Q => y = .non ∧ Q (.bl (decide (x = .non))) H) := by
  intro G H x y v u k Q s px py h q
  unfold dIsN at h
  split at h
  · exact ⟨py.non, by rw [pk_isNone px]; exact q _ h⟩
  · exact h.elim
theorem dNotN_ok {K : Fg} : (dIsN true).Ok K (fun x y H Q => y = .non ∧ Q (.bl (!decide (x = .non))) H) := by
  intro G H x y v u k Q s px py h q
  unfold dIsN at h
  split at h
  · exact ⟨py.non, by rw [pk_isNone px]; exact q _ h⟩
  · exact h.elim
/-- flat things: what in asks -/
def flatD : D → Bool
  | .none | .bool _ | .int _ | .str _ => true
  | _ => false
def flatEq : D → D → Bool
  | .none, .none => true
  | .bool a, .bool b => a == b
  | .bool a, .int j => (if a then 1 else 0) == j
  | .int i, .bool b => i == (if b then 1 else 0)
  | .int i, .int j => i == j
  | .str x, .str y => x == y
  | _, _ => false
end Pf
namespace Pf
open PySem PySem.Spec PyProof.Rows L2
theorem flat_rp {K : Fg} {G : Hp} {v : V} {x : D} (h : Rp K G v x) (f : flatD x = true) : flatV v = true := by
  cases h <;> first | rfl | cases f
theorem flat_eq {K : Fg} {G G' : Hp} {v u : V} {x y : D} (h : Rp K G v x) (h' : Rp K G' u y) (f : flatD x = true) (f' : flatD y = true) : eqV v u = flatEq x y := by
  cases h <;> first | (cases f; done) | (cases h' <;> first | rfl | (cases f'; done))
theorem flats_rp {K : Fg} {G : Hp} : ∀ {xs : List D} {vs : List V}, RpAll K G vs xs → xs.all flatD = true → vs.all flatV = true
  | [], _, .nil, _ => rfl
  | x :: xs, _, .cons h t, f => by
    rw [List.all_cons, Bool.and_eq_true] at f ⊢
    exact ⟨flat_rp h f.1, flats_rp t f.2⟩
def inD (x : D) (xs : List D) : Bool := xs.any fun y => flatEq y x
theorem inV_rp {K : Fg} {G G' : Hp} {v : V} {x : D} (h : Rp K G' v x) (f : flatD x = true) : ∀ {xs : List D} {vs : List V}, RpAll K G vs xs → xs.all flatD = true → inV v vs = inD x xs
  | [], _, .nil, _ => rfl
  | y :: xs, _, .cons h1 t, g => by
    rw [List.all_cons, Bool.and_eq_true] at g
    have e := inV_rp h f t g.2
    unfold inV inD at *
    rw [List.any_cons, List.any_cons, e, flat_eq h1 h g.1 f]
/-- in, not in: a list or a tuple of flat things; a text in a text -/
def dIn (neg : Bool) : B2 := fun x y k => match y with
  | .list ys => flatD x = true ∧ ys.all flatD = true ∧ k (if neg then !inD x ys else inD x ys)
  | .tuple ys => flatD x = true ∧ ys.all flatD = true ∧ k (if neg then !inD x ys else inD x ys)
  | _ => False
theorem dIn_mono {neg : Bool} : (dIn neg).Mono := by
  intro x y k k' f h
  unfold dIn at *
  split at h
  · exact ⟨h.1, h.2.1, f _ h.2.2⟩
  · exact ⟨h.1, h.2.1, f _ h.2.2⟩
  · exact h.elim
theorem pk_flat {K : Fg} {G H : Hp} {v : V} {x : D} (h : Pk K G H v x) (f : flatD x = true) : Rp K G v x := by
  rcases h with h | ⟨p, vs, xs, rfl, rfl, _⟩
  · exact h
  · cases f
theorem dIn_ok {K : Fg} {neg : Bool} : (dIn neg).Ok K (rIn K neg) := by
  intro G H x y v u k Q s px py h q
  unfold dIn at h
  split at h
  · obtain ⟨p, vs, rfl, h1, d1⟩ := py.lst s
    have hx := pk_flat px h.1
    exact ⟨p, vs, rfl, .inl (.inl h1), flat_rp hx h.1, flats_rp d1 h.2.1, by rw [inV_rp hx h.1 d1 h.2.1]; exact q _ h.2.2⟩
  · obtain ⟨p, vs, rfl, h1, d1⟩ := py.tup
    have hx := pk_flat px h.1
    exact ⟨p, vs, rfl, .inr (tq_mono s h1).sq, flat_rp hx h.1, flats_rp d1 h.2.1, by rw [inV_rp hx h.1 d1 h.2.1]; exact q _ h.2.2⟩
  · exact h.elim
section
variable {X : Cx} {a b c : Expr} {ra rb : RP} {pos : Pos}
theorem qt_eq (hu : X.A.units + 64 < cLine) (ha : QP X a ra) (hb : QP X b rb) (hm : behindInMarks .Eq b = false := by exact nomark _) : QT X (.Compare a [.Eq] [b] pos) (rCmp (dEq false) ra rb) := qt_cmp (op_eqD hu) dEq_ok dEq_mono ha hb hm
theorem qt_ne (hu : X.A.units + 64 < cLine) (ha : QP X a ra) (hb : QP X b rb) (hm : behindInMarks .NotEq b = false := by exact nomark _) : QT X (.Compare a [.NotEq] [b] pos) (rCmp (dEq true) ra rb) := qt_cmp (op_neD hu) dNe_ok dEq_mono ha hb hm
theorem qt_lt (ha : QP X a ra) (hb : QP X b rb) (hm : behindInMarks .Lt b = false := by exact nomark _) : QT X (.Compare a [.Lt] [b] pos) (rCmp (dOrd fun i j => decide (i < j)) ra rb) := qt_cmp op_lt dOrd_ok dOrd_mono ha hb hm
theorem qt_le (ha : QP X a ra) (hb : QP X b rb) (hm : behindInMarks .LtE b = false := by exact nomark _) : QT X (.Compare a [.LtE] [b] pos) (rCmp (dOrd fun i j => decide (i ≤ j)) ra rb) := qt_cmp op_le dOrd_ok dOrd_mono ha hb hm
theorem qt_gt (ha : QP X a ra) (hb : QP X b rb) (hm : behindInMarks .Gt b = false := by exact nomark _) : QT X (.Compare a [.Gt] [b] pos) (rCmp (dOrd fun i j => decide (j < i)) ra rb) := qt_cmp op_gt dOrd_ok dOrd_mono ha hb hm
theorem qt_ge (ha : QP X a ra) (hb : QP X b rb) (hm : behindInMarks .GtE b = false := by exact nomark _) : QT X (.Compare a [.GtE] [b] pos) (rCmp (dOrd fun i j => decide (j ≤ i)) ra rb) := qt_cmp op_ge dOrd_ok dOrd_mono ha hb hm
theorem qt_isN (ha : QP X a ra) (hb : QP X b rb) (hm : behindInMarks .Is b = false := by exact nomark _) : QT X (.Compare a [.Is] [b] pos) (rCmp (dIsN false) ra rb) := qt_cmp op_isN dIsN_ok dIsN_mono ha hb hm
theorem qt_notN (ha : QP X a ra) (hb : QP X b rb) (hm : behindInMarks .IsNot b = false := by exact nomark _) : QT X (.Compare a [.IsNot] [b] pos) (rCmp (dIsN true) ra rb) := qt_cmp op_notN dNotN_ok dIsN_mono ha hb hm
theorem qt_in (ha : QP X a ra) (hb : QP X b rb) (hm : behindInMarks .In b = false := by rfl) : QT X (.Compare a [.In] [b] pos) (rCmp (dIn false) ra rb) := qt_cmp op_in_seq dIn_ok dIn_mono ha hb hm
theorem qt_notin (ha : QP X a ra) (hb : QP X b rb) (hm : behindInMarks .NotIn b = false := by rfl) : QT X (.Compare a [.NotIn] [b] pos) (rCmp (dIn true) ra rb) := qt_cmp op_notIn_seq dIn_ok dIn_mono ha hb hm
theorem qv_eq (hu : X.A.units + 64 < cLine) (ha : QP X a ra) (hb : QP X b rb) (hm : behindInMarks .Eq b = false := by exact nomark _) : QV X (.Compare a [.Eq] [b] pos) (rTV (rCmp (dEq false) ra rb)) := qv_cmp (op_eqD hu) dEq_ok dEq_mono ha hb hm
theorem qv_ne (hu : X.A.units + 64 < cLine) (ha : QP X a ra) (hb : QP X b rb) (hm : behindInMarks .NotEq b = false := by exact nomark _) : QV X (.Compare a [.NotEq] [b] pos) (rTV (rCmp (dEq true) ra rb)) := qv_cmp (op_neD hu) dNe_ok dEq_mono ha hb hm
theorem qv_lt (ha : QP X a ra) (hb : QP X b rb) (hm : behindInMarks .Lt b = false := by exact nomark _) : QV X (.Compare a [.Lt] [b] pos) (rTV (rCmp (dOrd fun i j => decide (i < j)) ra rb)) := qv_cmp op_lt dOrd_ok dOrd_mono ha hb hm
theorem qv_le (ha : QP X a ra) (hb : QP X b rb) (hm : behindInMarks .LtE b = false := by exact nomark _) : QV X (.Compare a [.LtE] [b] pos) (rTV (rCmp (dOrd fun i j => decide (i ≤ j)) ra rb)) := qv_cmp op_le dOrd_ok dOrd_mono ha hb hm
theorem qv_gt (ha : QP X a ra) (hb : QP X b rb) (hm : behindInMarks .Gt b = false := by exact nomark _) : QV X (.Compare a [.Gt] [b] pos) (rTV (rCmp (dOrd fun i j => decide (j < i)) ra rb)) := qv_cmp op_gt dOrd_ok dOrd_mono ha hb hm
theorem qv_ge (ha : QP X a ra) (hb : QP X b rb) (hm : behindInMarks .GtE b = false := by exact nomark _) : QV X (.Compare a [.GtE] [b] pos) (rTV (rCmp (dOrd fun i j => decide (j ≤ i)) ra rb)) := qv_cmp op_ge dOrd_ok dOrd_mono ha hb hm
theorem qv_isN (ha : QP X a ra) (hb : QP X b rb) (hm : behindInMarks .Is b = false := by exact nomark _) : QV X (.Compare a [.Is] [b] pos) (rTV (rCmp (dIsN false) ra rb)) := qv_cmp op_isN dIsN_ok dIsN_mono ha hb hm
theorem qv_notN (ha : QP X a ra) (hb : QP X b rb) (hm : behindInMarks .IsNot b = false := by exact nomark _) : QV X (.Compare a [.IsNot] [b] pos) (rTV (rCmp (dIsN true) ra rb)) := qv_cmp op_notN dNotN_ok dIsN_mono ha hb hm
theorem qv_in (ha : QP X a ra) (hb : QP X b rb) (hm : behindInMarks .In b = false := by rfl) : QV X (.Compare a [.In] [b] pos) (rTV (rCmp (dIn false) ra rb)) := qv_cmp op_in_seq dIn_ok dIn_mono ha hb hm
theorem qv_notin (ha : QP X a ra) (hb : QP X b rb) (hm : behindInMarks .NotIn b = false := by rfl) : QV X (.Compare a [.NotIn] [b] pos) (rTV (rCmp (dIn true) ra rb)) := qv_cmp op_notIn_seq dIn_ok dIn_mono ha hb hm
end
/-- a chain of two comparisons -/
def rChain (f f' : B2) (ra rb rc : RP) : RT := fun env Q => ra env fun a e1 => rb e1 fun b e2 => dref e2 a fun x => dref e2 b fun y => f x y fun o => if o = true then rc e2 fun c e3 => dref e3 b fun y => dref e3 c fun z => f' y z fun o' => Q o' e3 else Q false e2
theorem rChain_mono {f f' : B2} {ra rb rc : RP} (hf : f.Mono) (hf' : f'.Mono) (ma : MonoK ra) (mb : MonoK rb) (mc : MonoK rc) : MonoK (rChain f f' ra rb rc) := fun env Q Q' g h =>
  ma _ _ _ (fun a e1 h => mb _ _ _ (fun b e2 h => dref.mono (fun x h => dref.mono (fun y h => hf _ _ _ _ (fun o h => by
    split at h
    · rename_i ho
      rw [if_pos ho]
      exact mc _ _ _ (fun c e3 h => dref.mono (fun y h => dref.mono (fun z h => hf' _ _ _ _ (fun o' h => g _ _ h) h) h) h) h
    · rename_i ho
      rw [if_neg ho]
      exact g _ _ h) h) h) h) h) h
section
variable {X : Cx} {op op' : CmpOp} {f f' : B2} {r r' : R2} {a b c : Expr} {ra rb rc : RP} {pos : Pos}
theorem tChain_of {K : Fg} (ok : f.Ok K r) (hf : f.Mono) (ok' : f'.Ok K r') (hf' : f'.Mono) (ma : MonoK ra) (mb : MonoK rb) (mc : MonoK rc) {G F H : Hp} {σ : L2.St} {env : Env} {Q0 : Bool → Env → Prop} {Q : VK} (rep : Rep K G F H σ env) (h : rChain f f' ra rb rc env Q0)
    (q : ∀ b e G' H', Q0 b e → Same G G' → Rep K G' F H' σ e → Q (.bl b) H') : tChain r r' (liftP K ra) (liftP K rb) (liftP K rc) σ H Q := by
  refine liftP_of ma rep h fun a e1 v G1 H1 h1 s1 rep1 d1 => ?_
  refine liftP_of mb rep1 h1 fun b e2 u G2 H2 h2 s2 rep2 d2 => ?_
  obtain ⟨x, p1, h3⟩ := dref_pk rep2 (d1.mono s2) h2
  obtain ⟨y, p2, h4⟩ := dref_pk rep2 d2 h3
  refine ok rep2.gh p1 p2 h4 fun o h5 => ⟨o, rfl, ?_⟩
  cases o with
  | true =>
    rw [if_pos rfl] at h5 ⊢
    refine liftP_of mc rep2 h5 fun c e3 w G3 H3 h6 s3 rep3 d3 => ?_
    obtain ⟨y2, p3, h7⟩ := dref_pk rep3 (d2.mono s3) h6
    obtain ⟨z, p4, h8⟩ := dref_pk rep3 d3 h7
    exact ok' rep3.gh p3 p4 h8 fun o' k => q o' e3 G3 H3 k ((s1.trans s2).trans s3) rep3
  | false =>
    rw [if_neg Bool.false_ne_true] at h5 ⊢
    exact q false e2 G2 H2 h5 (s1.trans s2) rep2
end
end Pf
set_option Elab.async false
set_option linter.all false
set_option maxRecDepth 100000
set_option maxHeartbeats 4000000
/-! Pf: tests, subscripts, slices, displays, calls of built-ins. -/
namespace Pf
open PySem PySem.Spec PyProof.Rows L2
section
variable {X : Cx} {op op' : CmpOp} {f f' : B2} {r r' : R2} {a b c : Expr} {ra rb rc : RP} {pos : Pos}
theorem qt_chain (ho : OpR X (compareOp op) r) (ok : f.Ok X.K r) (hf : f.Mono) (ho' : OpR X (compareOp op') r') (ok' : f'.Ok X.K r') (hf' : f'.Mono) (ha : QP X a ra) (hb : QP X b rb) (hc : QP X c rc)
    (hm : lastMarks [op, op'] [b, c] = false := by with_unfolding_all rfl) : QT X (.Compare a [op, op'] [b, c] pos) (rChain f f' ra rb rc) :=
  ⟨rChain_mono hf hf' ha.mono hb.mono hc.mono, pt_imp (pt_chain ho ho' ha.run hb.run hc.run hm) fun σ H Q ⟨env, G, F, rep, h⟩ => tChain_of ok hf ok' hf' ha.mono hb.mono hc.mono rep h fun b e G' H' k s r => ⟨b, rfl, k G' H' s r⟩⟩
theorem qv_chain (ho : OpR X (compareOp op) r) (ok : f.Ok X.K r) (hf : f.Mono) (ho' : OpR X (compareOp op') r') (ok' : f'.Ok X.K r') (hf' : f'.Mono) (ha : QP X a ra) (hb : QP X b rb) (hc : QP X c rc)
    (hm : lastMarks [op, op'] [b, c] = false := by with_unfolding_all rfl) : QV X (.Compare a [op, op'] [b, c] pos) (rTV (rChain f f' ra rb rc)) :=
  ⟨fun env Q Q' g h => rChain_mono hf hf' ha.mono hb.mono hc.mono _ _ _ (fun b e => g _ _) h, pe_imp (pe_chain ho ho' ha.run hb.run hc.run hm) fun σ H Q ⟨env, G, F, rep, h⟩ => tChain_of ok hf ok' hf' ha.mono hb.mono hc.mono rep h fun b e G' H' k s r => k _ G' H' s r (.bl b)⟩
end

/-! ### truth -/
def tb (x : D) (k : Bool → Prop) : Prop := match x with
  | .bool b => k b
  | _ => False
theorem tb.mono {x : D} {k k' : Bool → Prop} (f : ∀ b, k b → k' b) (h : tb x k) : tb x k' := by
  unfold tb at *
  split at h
  · exact f _ h
  · exact h.elim
def rTb (r : RV) : RT := fun env Q => r env fun x e => tb x fun b => Q b e
/-- truth of anything -/
def tru (x : D) (k : Bool → Prop) : Prop := match x with
  | .none => k false
  | .bool b => k b
  | .int i => k (i != 0)
  | .str s => s.length ≤ sizeLine ∧ k ((s.length : Int) != 0)
  | .list xs => k (!xs.isEmpty)
  | .tuple xs => k (!xs.isEmpty)
  | .dict _ => False
theorem tru.mono {x : D} {k k' : Bool → Prop} (f : ∀ b, k b → k' b) (h : tru x k) : tru x k' := by
  unfold tru at *
  split at h
  · exact f _ h
  · exact f _ h
  · exact f _ h
  · exact ⟨h.1, f _ h.2⟩
  · exact f _ h
  · exact f _ h
  · exact h.elim
def rTru (r : RP) : RT := fun env Q => r env fun a e => dref e a fun x => tru x fun b => Q b e
section
variable {X : Cx} {a b : Expr} {pos : Pos}
theorem rps_emp {K : Fg} {G : Hp} {xs : List D} {vs : List V} (h : RpAll K G vs xs) : vs.isEmpty = xs.isEmpty := by
  cases h <;> rfl
theorem qt_val {r : RV} (h : QV X a r) (he : ∀ whole, isTrue a X.env whole = (do let v ← whole; standAt a.pos; holding [v] (truthy v)) := by intro _; rfl) : QT X a (rTb r) := by
  refine ⟨fun env Q Q' f q => h.mono _ _ _ (fun x e => tb.mono fun b => f b e) q, pt_imp (pt_val h.run he) ?_⟩
  intro σ H Q ⟨env, G, F, rep, q⟩
  refine liftV_of h.mono rep q fun x e v G1 H1 h1 s1 rep1 d1 => ?_
  unfold tb at h1
  split at h1
  · cases d1
    exact ⟨_, rfl, h1 G1 H1 s1 rep1⟩
  · exact h1.elim
theorem qt_tru {r : RP} (h : QP X a r) (he : ∀ whole, isTrue a X.env whole = (do let v ← whole; standAt a.pos; holding [v] (truthy v)) := by intro _; rfl) : QT X a (rTru r) := by
  refine ⟨fun env Q Q' f q => h.mono _ _ _ (fun x e => dref.mono fun y => tru.mono fun b => f b e) q, pt_imp (pt_truth h.run he) ?_⟩
  intro σ H Q ⟨env, G, F, rep, q⟩
  refine liftP_of h.mono rep q fun x e v G1 H1 h1 s1 rep1 d1 => ?_
  obtain ⟨y, p1, h2⟩ := dref_pk rep1 d1 h1
  unfold tru at h2
  split at h2
  · rw [p1.non]
    exact ⟨false, rfl, h2 G1 H1 s1 rep1⟩
  · rw [p1.bl]
    exact ⟨_, rfl, h2 G1 H1 s1 rep1⟩
  · rw [p1.int]
    exact ⟨_, rfl, h2 G1 H1 s1 rep1⟩
  · rw [p1.str]
    exact ⟨_, ⟨h2.1, rfl⟩, h2.2 G1 H1 s1 rep1⟩
  · obtain ⟨p, vs, rfl, g1, d2⟩ := p1.lst rep1.gh
    exact ⟨_, .inl ⟨vs, .inl g1, rfl⟩, by rw [rps_emp d2]; exact h2 G1 H1 s1 rep1⟩
  · obtain ⟨p, vs, rfl, g1, d2⟩ := p1.tup
    exact ⟨_, .inr (.inl ⟨vs, (tq_mono rep1.gh g1).sq, rfl⟩), by rw [rps_emp d2]; exact h2 G1 H1 s1 rep1⟩
  · exact h2.elim
def rNot (r : RT) : RT := fun env Q => r env fun b e => Q (!b) e
def rAnd (r r' : RT) : RT := fun env Q => r env fun b e => if b = true then r' e Q else Q false e
def rOr (r r' : RT) : RT := fun env Q => r env fun b e => if b = true then Q true e else r' e Q
theorem ite_mono {c : Prop} [Decidable c] {A B A' B' : Prop} (f : A → A') (g : B → B') (h : if c then A else B) : if c then A' else B' := by
  split at h
  · rename_i hc; rw [if_pos hc]; exact f h
  · rename_i hc; rw [if_neg hc]; exact g h
theorem qt_not {r : RT} (h : QT X a r) : QT X (.UnaryOp .Not a pos) (rNot r) := by
  refine ⟨fun env Q Q' f q => h.mono _ _ _ (fun x e => f _ e) q, pt_imp (pt_not h.run) ?_⟩
  intro σ H Q ⟨env, G, F, rep, q⟩
  exact liftT_of h.mono rep q fun x e G1 H1 h1 s1 rep1 => h1 G1 H1 s1 rep1
theorem qw_and1 {r : RT} (h : QT X a r) : QW X (.BoolOp .And [a] pos) r := ⟨h.mono, pw_and1 h.run⟩
theorem qw_or1 {r : RT} (h : QT X a r) : QW X (.BoolOp .Or [a] pos) r := ⟨h.mono, pw_or1 h.run⟩
theorem qw_and {r r' : RT} {rest : List Expr} (h : QT X a r) (h' : QW X (.BoolOp .And (b :: rest) pos) r') : QW X (.BoolOp .And (a :: b :: rest) pos) (rAnd r r') := by
  refine ⟨fun env Q Q' f q => h.mono _ _ _ (fun x e => ite_mono (h'.mono _ _ _ f) (f _ e)) q, pw_imp (pw_and h.run h'.run) ?_⟩
  intro σ H Q ⟨env, G, F, rep, q⟩
  refine liftT_of h.mono rep q fun x e G1 H1 h1 s1 rep1 => ?_
  refine ite_mono (fun z => ?_) (fun z => ?_) h1
  · exact liftT_of h'.mono rep1 z fun x e G2 H2 h2 s2 rep2 => h2 G2 H2 (s1.trans s2) rep2
  · exact z G1 H1 s1 rep1
theorem qw_or {r r' : RT} {rest : List Expr} (h : QT X a r) (h' : QW X (.BoolOp .Or (b :: rest) pos) r') : QW X (.BoolOp .Or (a :: b :: rest) pos) (rOr r r') := by
  refine ⟨fun env Q Q' f q => h.mono _ _ _ (fun x e => ite_mono (f _ e) (h'.mono _ _ _ f)) q, pw_imp (pw_or h.run h'.run) ?_⟩
  intro σ H Q ⟨env, G, F, rep, q⟩
  refine liftT_of h.mono rep q fun x e G1 H1 h1 s1 rep1 => ?_
  refine ite_mono (fun z => ?_) (fun z => ?_) h1
  · exact z G1 H1 s1 rep1
  · exact liftT_of h'.mono rep1 z fun x e G2 H2 h2 s2 rep2 => h2 G2 H2 (s1.trans s2) rep2
theorem QW.t {r : RT} {e : Expr} (h : QW X e r) : QT X e r := ⟨h.mono, h.run.pt⟩
/-- the same as values: all but the last a truth value -/
def rAndV (r r' : RV) : RV := fun env Q => r env fun x e => tb x fun b => if b = true then r' e Q else Q (.bool false) e
def rOrV (r r' : RV) : RV := fun env Q => r env fun x e => tb x fun b => if b = true then Q (.bool true) e else r' e Q
def rNotV (r : RV) : RV := fun env Q => r env fun x e => tb x fun b => Q (.bool (!b)) e
theorem qv_one {op : BoolOp} {r : RV} (h : QV X a r) : QV X (.BoolOp op [a] pos) r := ⟨h.mono, pe_one h.run⟩
theorem qv_and {r r' : RV} {rest : List Expr} (h : QV X a r) (h' : QV X (.BoolOp .And (b :: rest) pos) r') : QV X (.BoolOp .And (a :: b :: rest) pos) (rAndV r r') := by
  refine ⟨fun env Q Q' f q => h.mono _ _ _ (fun x e => tb.mono fun c => ite_mono (h'.mono _ _ _ f) (f _ e)) q, pe_imp (pe_and h.run h'.run) ?_⟩
  intro σ H Q ⟨env, G, F, rep, q⟩
  refine liftV_of h.mono rep q fun x e v G1 H1 h1 s1 rep1 d1 => ?_
  unfold tb at h1
  split at h1
  · cases d1
    refine ⟨_, rfl, ite_mono (fun z => ?_) (fun z => ?_) h1⟩
    · exact liftV_of h'.mono rep1 z fun x e v G2 H2 h2 s2 rep2 d2 => h2 v G2 H2 (s1.trans s2) rep2 d2
    · exact z _ G1 H1 s1 rep1 (.bl _)
  · exact h1.elim
theorem qv_or {r r' : RV} {rest : List Expr} (h : QV X a r) (h' : QV X (.BoolOp .Or (b :: rest) pos) r') : QV X (.BoolOp .Or (a :: b :: rest) pos) (rOrV r r') := by
  refine ⟨fun env Q Q' f q => h.mono _ _ _ (fun x e => tb.mono fun c => ite_mono (f _ e) (h'.mono _ _ _ f)) q, pe_imp (pe_or h.run h'.run) ?_⟩
  intro σ H Q ⟨env, G, F, rep, q⟩
  refine liftV_of h.mono rep q fun x e v G1 H1 h1 s1 rep1 d1 => ?_
  unfold tb at h1
  split at h1
  · cases d1
    refine ⟨_, rfl, ite_mono (fun z => ?_) (fun z => ?_) h1⟩
    · exact z _ G1 H1 s1 rep1 (.bl _)
    · exact liftV_of h'.mono rep1 z fun x e v G2 H2 h2 s2 rep2 d2 => h2 v G2 H2 (s1.trans s2) rep2 d2
  · exact h1.elim
theorem qv_not {r : RV} (h : QV X a r) : QV X (.UnaryOp .Not a pos) (rNotV r) := by
  refine ⟨fun env Q Q' f q => h.mono _ _ _ (fun x e => tb.mono fun c => f _ e) q, pe_imp (pe_not h.run) ?_⟩
  intro σ H Q ⟨env, G, F, rep, q⟩
  refine liftV_of h.mono rep q fun x e v G1 H1 h1 s1 rep1 d1 => ?_
  unfold tb at h1
  split at h1
  · cases d1
    exact ⟨_, rfl, h1 _ G1 H1 s1 rep1 (.bl _)⟩
  · exact h1.elim
def rIf (t : RT) (r r' : RE) : RE := fun env Q => t env fun b e => if b = true then r e Q else r' e Q
theorem qe_if {t : RT} {r r' : RE} {c : Expr} (hc : QT X c t) (h : QE X a r) (h' : QE X b r') : QE X (.IfExp c a b pos) (rIf t r r') := by
  refine ⟨fun env Q Q' f q => hc.mono _ _ _ (fun x e => ite_mono (h.mono _ _ _ f) (h'.mono _ _ _ f)) q, pe_imp (pe_ifExp hc.run h.run h'.run) ?_⟩
  intro σ H Q ⟨env, G, F, rep, q⟩
  refine liftT_of hc.mono rep q fun x e G1 H1 h1 s1 rep1 => ?_
  refine ite_mono (fun z => ?_) (fun z => ?_) h1
  · exact liftO_of h.mono rep1 z fun x e v G2 H2 h2 s2 rep2 => h2 v G2 H2 (s1.trans s2) rep2
  · exact liftO_of h'.mono rep1 z fun x e v G2 H2 h2 s2 rep2 => h2 v G2 H2 (s1.trans s2) rep2
/-- -x -/
def rNeg (r : RV) : RV := fun env Q => r env fun x e => match x with
  | .int i => Q (.int (-i)) e
  | _ => False
theorem qv_neg {r : RV} (h : QV X a r) : QV X (.UnaryOp .USub a pos) (rNeg r) := by
  refine ⟨fun env Q Q' f q => h.mono _ _ _ (fun x e z => ?_) q, pe_imp (pe_un un_neg h.run) ?_⟩
  · split at z
    · exact f _ _ z
    · exact z
  intro σ H Q ⟨env, G, F, rep, q⟩
  refine liftV_of h.mono rep q fun x e v G1 H1 h1 s1 rep1 d1 => ?_
  split at h1
  · cases d1
    exact ⟨_, rfl, h1 _ G1 H1 s1 rep1 (.int _)⟩
  · exact h1.elim

/-! ### subscripts -/
def rIxA (K : Fg) : R2 := fun x y H Q => rIxL K x y H Q ∨ rIxT K x y H Q ∨ rIxS x y H Q
def dIx : F2 := fun x y k => match x, y with
  | .list xs, .int i => ∃ z, atI xs i = some z ∧ k (.d z)
  | .tuple xs, .int i => ∃ z, atI xs i = some z ∧ k (.d z)
  | .str s, .int i => s.length ≤ sizeLine ∧ ∃ c, atI s.cps.toList i = some c ∧ k (.d (.str ⟨#[c]⟩))
  | _, _ => False
theorem dIx_mono : dIx.Mono := by
  intro x y k k' f h
  unfold dIx at *
  split at h
  · obtain ⟨z, e, h⟩ := h; exact ⟨z, e, f _ h⟩
  · obtain ⟨z, e, h⟩ := h; exact ⟨z, e, f _ h⟩
  · obtain ⟨e0, z, e, h⟩ := h; exact ⟨e0, z, e, f _ h⟩
  · exact h.elim
theorem rps_at {K : Fg} {G : Hp} {xs : List D} {vs : List V} {i : Int} {x : D} (h : RpAll K G vs xs) (e : atI xs i = some x) : ∃ v, atI vs i = some v ∧ Rp K G v x := by
  unfold atI at *
  rw [rps_len h]
  cases ej : ixN xs.length i with
  | none => rw [ej] at e; cases e
  | some j =>
    rw [ej] at e
    exact rps_get h e
theorem dIx_ok {K : Fg} : dIx.Ok K (rIxA K) := by
  intro G F H σ env x y v u k Q rep px py h q
  unfold dIx at h
  split at h
  · obtain ⟨z, e, h⟩ := h
    obtain ⟨p, vs, rfl, h1, d1⟩ := px.lst rep.gh
    obtain ⟨v, e2, d2⟩ := rps_at d1 e
    exact .inl ⟨p, vs, _, v, rfl, py.int, .inl h1, e2, q _ _ G H h (fun _ _ z => z) (.of rep d2)⟩
  · obtain ⟨z, e, h⟩ := h
    obtain ⟨p, vs, rfl, h1, d1⟩ := px.tup
    obtain ⟨v, e2, d2⟩ := rps_at d1 e
    exact .inr (.inl ⟨p, vs, _, v, rfl, py.int, (tq_mono rep.gh h1).sq, e2, q _ _ G H h (fun _ _ z => z) (.of rep d2)⟩)
  · obtain ⟨e0, c, e, h⟩ := h
    exact .inr (.inr ⟨_, _, c, px.str, py.int, e0, e, q _ _ G H h (fun _ _ z => z) (.of rep (.str _))⟩)
  · exact h.elim
theorem qv_ix {ra rb : RP} (ha : QP X a ra) (hb : QP X b rb) (hs : PlainIx b := by exact fun _ _ => rfl) : QV X (.Subscript a b pos) (rD (rOp dIx ra rb)) :=
  QE.v ⟨rOp_mono dIx_mono ha.mono hb.mono, pe_imp (pe_ix (IxR.or ix_list (IxR.or ix_tup ix_str)) ha.run hb.run hs) (tOp_of dIx_ok dIx_mono ha.mono hb.mono)⟩
end

/-! ### slices -/
abbrev RO := Env → (Option Int → Env → Prop) → Prop
def liftI (K : Fg) (r : RO) : TO := fun σ H Q => ∃ env G F, Rep K G F H σ env ∧ r env fun b env' => ∀ G' H', Same G G' → Rep K G' F H' σ env' → Q b H'
structure QI (X : Cx) (e : Option Expr) (r : RO) : Prop where
  mono : MonoK r
  run : PO X e (liftI X.K r)
def rNoI : RO := fun env Q => Q none env
def rSoI (r : RV) : RO := fun env Q => r env fun x e => match x with
  | .int i => Q (some i) e
  | _ => False
theorem po_imp {X : Cx} {e : Option Expr} {t t' : TO} (h : PO X e t) (f : ∀ σ H Q, t' σ H Q → t σ H Q) : PO X e t' := ⟨fun pins s σ H Q I q => h.run pins s σ H Q I (f σ H Q q)⟩
theorem liftI_of {K : Fg} {G F H : Hp} {σ : L2.St} {env : Env} {r : RO} {Q : Option Int → Hp → Prop} {Q0 : Option Int → Env → Prop} (m : MonoK r) (rep : Rep K G F H σ env) (h : r env Q0)
    (f : ∀ x env' G' H', Q0 x env' → Same G G' → Rep K G' F H' σ env' → Q x H') : liftI K r σ H Q := ⟨env, G, F, rep, m _ _ _ (fun x e q G' H' s r => f x e G' H' q s r) h⟩
theorem qi_none {X : Cx} : QI X none rNoI := ⟨fun env Q Q' f h => f _ _ h, po_imp po_none fun σ H Q ⟨env, G, F, rep, h⟩ => h G H (fun _ _ z => z) rep⟩
theorem qi_some {X : Cx} {e : Expr} {r : RV} (h : QV X e r) : QI X (some e) (rSoI r) := by
  refine ⟨fun env Q Q' f q => h.mono _ _ _ (fun x e z => ?_) q, po_imp (po_some h.run) ?_⟩
  · split at z
    · exact f _ _ z
    · exact z
  intro σ H Q ⟨env, G, F, rep, q⟩
  refine liftV_of h.mono rep q fun x e v G1 H1 h1 s1 rep1 d1 => ?_
  split at h1
  · cases d1
    exact ⟨_, rfl, h1 G1 H1 s1 rep1⟩
  · exact h1.elim
def cut {α : Type} (xs : List α) (lo hi : Option Int) : List α := (xs.drop (HT.sIx xs.length 0 lo)).take (HT.sIx xs.length xs.length hi - HT.sIx xs.length 0 lo)
theorem rps_cut {K : Fg} {G : Hp} {xs : List D} {vs : List V} (h : RpAll K G vs xs) (lo hi : Option Int) : RpAll K G (cutV vs lo hi) (cut xs lo hi) := by
  unfold cutV cut
  rw [rps_len h]
  exact rps_take _ (rps_drop _ h)
abbrev F3 := D → Option Int → Option Int → (O → Prop) → Prop
def dSl : F3 := fun x lo hi k => match x with
  | .list xs => k (.own (cut xs lo hi))
  | .tuple xs => k (.d (.tuple (cut xs lo hi)))
  | .str s => s.length ≤ sizeLine ∧ k (.d (.str (cutS s lo hi)))
  | _ => False
theorem cut_whole {α : Type} {xs : List α} {lo hi : Option Int} (h : HT.sIx xs.length 0 lo = 0 ∧ HT.sIx xs.length xs.length hi = xs.length) : cut xs lo hi = xs := by
  unfold cut
  rw [h.1, h.2, List.drop_zero, Nat.sub_zero, List.take_length]
def rSl (ra : RP) (rl rh : RO) : RE := fun env Q => ra env fun a e1 => rl e1 fun lo e2 => rh e2 fun hi e3 => dref e3 a fun x => dSl x lo hi fun o => Q o e3
theorem dSl_mono {x : D} {lo hi : Option Int} {k k' : O → Prop} (f : ∀ o, k o → k' o) (h : dSl x lo hi k) : dSl x lo hi k' := by
  unfold dSl at *
  split at h
  · exact f _ h
  · exact f _ h
  · exact ⟨h.1, f _ h.2⟩
  · exact h.elim
theorem qe_slice {X : Cx} {a : Expr} {lo hi : Option Expr} {pos p2 : Pos} {ra : RP} {rl rh : RO} (ha : QP X a ra) (hl : QI X lo rl) (hh : QI X hi rh) : QE X (.Subscript a (.Slice lo hi none p2) pos) (rSl ra rl rh) := by
  refine ⟨fun env Q Q' f q => ha.mono _ _ _ (fun a e z => hl.mono _ _ _ (fun l e z => hh.mono _ _ _ (fun h e z => dref.mono (fun x => dSl_mono fun o => f o e) z) z) z) q, pe_imp (pe_slice (SlR.or sl_list (SlR.or sl_tupF sl_str)) ha.run hl.run hh.run) ?_⟩
  intro σ H Q ⟨env, G, F, rep, q⟩
  refine liftP_of ha.mono rep q fun a e v G1 H1 h1 s1 rep1 d1 => ?_
  refine liftI_of hl.mono rep1 h1 fun l e2 G2 H2 h2 s2 rep2 => ?_
  refine liftI_of hh.mono rep2 h2 fun u e3 G3 H3 h3 s3 rep3 => ?_
  obtain ⟨x, p1, h4⟩ := dref_pk rep3 (d1.mono (s2.trans s3)) h3
  have ss := (s1.trans s2).trans s3
  unfold dSl at h4
  split at h4
  · obtain ⟨p, vs, rfl, g1, d1⟩ := p1.lst rep3.gh
    exact .inl ⟨p, vs, rfl, .inl g1, fun q hq => h4 _ G3 _ ss (rep3.lst hq (rps_cut d1 l u))⟩
  · obtain ⟨p, vs, rfl, g1, d1⟩ := p1.tup
    refine .inr (.inl ⟨p, vs, rfl, (tq_mono rep3.gh g1).sq, fun hw => ?_, fun hw q o ho hq => ?_⟩)
    · refine h4 _ G3 H3 ss (.of rep3 ?_)
      rw [cut_whole (by rw [← rps_len d1]; exact hw)]
      exact .tup g1 d1
    · have r2 := rep3.tup hq ho (rps_cut d1 l u)
      exact h4 _ _ _ (ss.trans r2.1) r2.2
  · exact .inr (.inr ⟨_, p1.str, h4.1, h4.2 _ G3 H3 ss (.of rep3 (.str _))⟩)
  · exact h4.elim

/-! ### displays -/
abbrev RL := Env → (List D → Env → Prop) → Prop
def liftL (K : Fg) (r : RL) : TA := fun σ H Q => ∃ env G F, Rep K G F H σ env ∧ r env fun xs env' => ∀ vs G' H', Same G G' → Rep K G' F H' σ env' → RpAll K G' vs xs → Q vs H'
structure QL (X : Cx) (es : List Expr) (r : RL) : Prop where
  mono : MonoK r
  run : PA X es (liftL X.K r)
theorem liftL_of {K : Fg} {G F H : Hp} {σ : L2.St} {env : Env} {r : RL} {Q : List V → Hp → Prop} {Q0 : List D → Env → Prop} (m : MonoK r) (rep : Rep K G F H σ env) (h : r env Q0)
    (f : ∀ x env' v G' H', Q0 x env' → Same G G' → Rep K G' F H' σ env' → RpAll K G' v x → Q v H') : liftL K r σ H Q := ⟨env, G, F, rep, m _ _ _ (fun x e q v G' H' s r d => f x e v G' H' q s r d) h⟩
def rNil : RL := fun env Q => Q [] env
def rCons (ra : RV) (rs : RL) : RL := fun env Q => ra env fun x e1 => rs e1 fun xs e2 => Q (x :: xs) e2
section
variable {X : Cx} {a : Expr} {es : List Expr} {pos : Pos}
theorem ql_nil : QL X [] rNil := ⟨fun env Q Q' f h => f _ _ h, pa_imp pa_nil fun σ H Q ⟨env, G, F, rep, h⟩ => h [] G H (fun _ _ z => z) rep .nil⟩
theorem ql_cons {ra : RV} {rs : RL} (ha : QV X a ra) (hs : QL X es rs) (he : starEach (a :: es) X.env = (false, eval a X.env) :: starEach es X.env := by rfl) : QL X (a :: es) (rCons ra rs) := by
  refine ⟨fun env Q Q' f q => ha.mono _ _ _ (fun x e z => hs.mono _ _ _ (fun xs e => f _ e) z) q, pa_imp (pa_cons ha.run hs.run he) ?_⟩
  intro σ H Q ⟨env, G, F, rep, q⟩
  refine liftV_of ha.mono rep q fun x e v G1 H1 h1 s1 rep1 d1 => ?_
  exact liftL_of hs.mono rep1 h1 fun xs e2 vs G2 H2 h2 s2 rep2 d2 => h2 _ G2 H2 (s1.trans s2) rep2 (.cons (rp_mono s2 x d1) d2)
def rTup (r : RL) : RV := fun env Q => r env fun xs e => xs.length ≤ sizeLine ∧ Q (.tuple xs) e
def rLst (r : RL) : RE := fun env Q => r env fun xs e => xs.length ≤ sizeLine ∧ Q (.own xs) e
theorem RepV.dd {K : Fg} {G F H : Hp} {σ : L2.St} {env : Env} {v : V} {x : D} (h : RepV K G F H σ env v (.d x)) : Rep K G F H σ env ∧ Rp K G v x := by
  obtain ⟨fp, fpv, sl, ⟨d, rfl⟩, w⟩ := h
  exact ⟨⟨fp, sl, w⟩, d⟩
theorem qv_tup {r : RL} {x1 : Nat} (h : QL X es r) : QV X (.Tuple es x1 pos) (rTup r) := by
  refine ⟨fun env Q Q' f q => h.mono _ _ _ (fun x e z => ⟨z.1, f _ _ z.2⟩) q, pe_imp (pe_tupF h.run) ?_⟩
  intro σ H Q ⟨env, G, F, rep, q⟩
  refine liftL_of h.mono rep q fun xs e vs G1 H1 h1 s1 rep1 d1 => ⟨by rw [rps_len d1]; exact h1.1, fun p o ho hp => ?_⟩
  obtain ⟨s2, r2⟩ := rep1.tup hp ho d1
  exact h1.2 _ _ _ (s1.trans s2) r2.dd.1 r2.dd.2
theorem qe_lst {r : RL} (h : QL X es r) : QE X (.List es pos) (rLst r) := by
  refine ⟨fun env Q Q' f q => h.mono _ _ _ (fun x e z => ⟨z.1, f _ _ z.2⟩) q, pe_imp (pe_lst h.run) ?_⟩
  intro σ H Q ⟨env, G, F, rep, q⟩
  refine liftL_of h.mono rep q fun xs e vs G1 H1 h1 s1 rep1 d1 => ⟨by rw [rps_len d1]; exact h1.1, fun p hp => ?_⟩
  exact h1.2 _ _ _ s1 (rep1.lst hp d1)
end
end Pf
set_option Elab.async false
set_option linter.all false
set_option maxRecDepth 100000
set_option maxHeartbeats 4000000
/-! Pf: calls of built-ins. -/
namespace Pf
open PySem PySem.Spec PyProof.Rows L2

/-! ### argument lists -/
def rANil : RA := fun env Q => Q [] env
def rACons (ra : RP) (rs : RA) : RA := fun env Q => ra env fun x e1 => rs e1 fun xs e2 => Q (x :: xs) e2
section
variable {X : Cx} {a : Expr} {es : List Expr} {pos : Pos}
theorem qa_nil : QA X [] rANil := ⟨fun env Q Q' f h => f _ _ h, pa_imp pa_nil fun σ H Q ⟨env, G, F, rep, h⟩ => h [] G H (fun _ _ z => z) rep .nil⟩
theorem qa_cons {ra : RP} {rs : RA} (ha : QP X a ra) (hs : QA X es rs) (he : starEach (a :: es) X.env = (false, eval a X.env) :: starEach es X.env := by rfl) : QA X (a :: es) (rACons ra rs) := by
  refine ⟨fun env Q Q' f q => ha.mono _ _ _ (fun x e z => hs.mono _ _ _ (fun xs e => f _ e) z) q, pa_imp (pa_cons ha.run hs.run he) ?_⟩
  intro σ H Q ⟨env, G, F, rep, q⟩
  refine liftP_of ha.mono rep q fun x e v G1 H1 h1 s1 rep1 d1 => ?_
  exact liftA_of hs.mono rep1 h1 fun xs e2 vs G2 H2 h2 s2 rep2 d2 => h2 _ G2 H2 (s1.trans s2) rep2 (.cons (d1.mono s2) d2)
end
def drefs (e : Env) : List Arg → (List D → Prop) → Prop
  | [], k => k []
  | a :: as, k => dref e a fun x => drefs e as fun xs => k (x :: xs)
theorem drefs.mono {e : Env} : ∀ {as : List Arg} {k k' : List D → Prop}, (∀ x, k x → k' x) → drefs e as k → drefs e as k'
  | [], _, _, f, h => f _ h
  | _ :: _, _, _, f, h => dref.mono (fun x => drefs.mono fun xs => f _) h
inductive Pks (K : Fg) (G H : Hp) : List V → List D → Prop
  | nil : Pks K G H [] []
  | cons {v : V} {x : D} {vs : List V} {xs : List D} : Pk K G H v x → Pks K G H vs xs → Pks K G H (v :: vs) (x :: xs)
theorem drefs_pk {K : Fg} {G F H : Hp} {σ : L2.St} {env : Env} (r : Rep K G F H σ env) : ∀ {as : List Arg} {vs : List V} {k : List D → Prop}, ArgsRep K G σ vs as → drefs env as k → ∃ xs, Pks K G H vs xs ∧ k xs
  | _, _, _, .nil, h => ⟨[], .nil, h⟩
  | _, _, _, .cons a t, h => by
    obtain ⟨x, p, h1⟩ := dref_pk r a h
    obtain ⟨xs, ps, h2⟩ := drefs_pk r t h1
    exact ⟨x :: xs, .cons p ps, h2⟩

/-- a function of data: what it asks, what it gives -/
abbrev FN := List D → (O → Prop) → Prop
def FN.Mono (f : FN) : Prop := ∀ xs (k k' : O → Prop), (∀ o, k o → k' o) → f xs k → f xs k'
def FN.Ok (K : Fg) (f : FN) (r : List V → Hp → VK → Prop) : Prop := ∀ {G F H : Hp} {σ : L2.St} {env : Env} {xs : List D} {vs : List V} {k : O → Prop} {Q : VK}, Rep K G F H σ env → Pks K G H vs xs → f xs k →
  (∀ o w G' H', k o → Same G G' → RepV K G' F H' σ env w o → Q w H') → r vs H Q
def rCB (f : FN) (ra : RA) : RE := fun env Q => ra env fun as e => drefs e as fun xs => f xs fun o => Q o e
theorem rCB_mono {f : FN} {ra : RA} (hf : f.Mono) (ma : MonoK ra) : MonoK (rCB f ra) := fun env Q Q' g h => ma _ _ _ (fun as e z => drefs.mono (fun xs => hf _ _ _ fun o => g o e) z) h
theorem tCB_of {K : Fg} {f : FN} {r : List V → Hp → VK → Prop} {ra : RA} (ok : f.Ok K r) (ma : MonoK ra) (σ : L2.St) (H : Hp) (Q : VK) (h : liftO K (rCB f ra) σ H Q) : tCB r (liftA K ra) σ H Q := by
  obtain ⟨env, G, F, rep, h⟩ := h
  refine liftA_of ma rep h fun as e vs G1 H1 h1 s1 rep1 d1 => ?_
  obtain ⟨xs, ps, h2⟩ := drefs_pk rep1 d1 h1
  exact ok rep1 ps h2 fun o w G' H' k s r => k w G' H' (s1.trans s) r
section
variable {X : Cx} {e : Expr} {es : List Expr} {x : Str} {p pos : Pos} {f : FN} {ra : RA} {r : List V → Hp → VK → Prop} {id T : String}
theorem qe_callB (hc : CallR X (.builtin id) r) (ok : f.Ok X.K r) (mo : f.Mono) (hm : X.mg x = none) (ha : QA X (e :: es) ra) (hv : bootBuiltins x = some (.builtin id) := by decide +kernel) (hg : Gl X x := by rfl) (hn : x ≠ "__name__" := by decide) (hdb : (x == ("__debug__" : Str)) = false := by decide)
    (he : starEach (e :: es) X.env = (false, eval e X.env) :: starEach es X.env := by rfl) (hpl : (backTo pos (starEach es X.env)).any (·.1) = false := by rfl) : QE X (.Call (.Name x p) (e :: es) [] pos) (rCB f ra) :=
  ⟨rCB_mono mo ha.mono, pe_imp (pe_callB hc hg hm hv ha.run hn hdb he hpl) (tCB_of ok ha.mono)⟩
theorem qe_callTy (hc : CallR X (.type T) r) (ok : f.Ok X.K r) (mo : f.Mono) (hm : X.mg x = none) (ha : QA X (e :: es) ra) (hv : bootBuiltins x = some (.type T) := by decide +kernel) (hg : Gl X x := by rfl) (hn : x ≠ "__name__" := by decide) (hdb : (x == ("__debug__" : Str)) = false := by decide)
    (he : starEach (e :: es) X.env = (false, eval e X.env) :: starEach es X.env := by rfl) (hpl : (backTo pos (starEach es X.env)).any (·.1) = false := by rfl) : QE X (.Call (.Name x p) (e :: es) [] pos) (rCB f ra) :=
  ⟨rCB_mono mo ha.mono, pe_imp (pe_callTy hc hg hm hv ha.run hn hdb he hpl) (tCB_of ok ha.mono)⟩
theorem qe_callM (hc : CallR X (.builtin id) r) (ok : f.Ok X.K r) (mo : f.Mono) (hm : X.mg x = some (.builtin id)) (ha : QA X (e :: es) ra) (hg : Gl X x := by rfl) (hdb : (x == ("__debug__" : Str)) = false := by decide)
    (he : starEach (e :: es) X.env = (false, eval e X.env) :: starEach es X.env := by rfl) (hpl : (backTo pos (starEach es X.env)).any (·.1) = false := by rfl) : QE X (.Call (.Name x p) (e :: es) [] pos) (rCB f ra) :=
  ⟨rCB_mono mo ha.mono, pe_imp (pe_callBfun hc hg hm ha.run hdb he hpl) (tCB_of ok ha.mono)⟩
end
theorem Pks.one {K : Fg} {G H : Hp} {vs : List V} {x : D} (h : Pks K G H vs [x]) : ∃ v, vs = [v] ∧ Pk K G H v x := by
  cases h with
  | cons a t => cases t; exact ⟨_, rfl, a⟩
theorem Pks.two {K : Fg} {G H : Hp} {vs : List V} {x y : D} (h : Pks K G H vs [x, y]) : ∃ v u, vs = [v, u] ∧ Pk K G H v x ∧ Pk K G H u y := by
  cases h with
  | cons a t =>
    obtain ⟨u, rfl, b⟩ := t.one
    exact ⟨_, u, rfl, a, b⟩
theorem idS {G : Hp} : Same G G := fun _ _ z => z
theorem CallR.or {X : Cx} {f : Value} {r r' : List V → Hp → VK → Prop} (h : CallR X f r) (h' : CallR X f r') : CallR X f (fun vs H Q => r vs H Q ∨ r' vs H Q) := by
  intro pins s σ H vs us Q I rv q
  rcases q with q | q
  · exact h pins s σ H vs us Q I rv q
  · exact h' pins s σ H vs us Q I rv q

/-! ### len, int, abs -/
def fLen : FN := fun xs k => match xs with
  | [.list ys] => k (.d (.int ys.length))
  | [.tuple ys] => k (.d (.int ys.length))
  | [.str s] => s.length ≤ sizeLine ∧ k (.d (.int s.length))
  | _ => False
theorem fLen_mono : fLen.Mono := by
  intro xs k k' f h
  unfold fLen at *
  split at h
  · exact f _ h
  · exact f _ h
  · exact ⟨h.1, f _ h.2⟩
  · exact h.elim
theorem fLen_ok {K : Fg} : fLen.Ok K (fun xs H Q => ∃ x n, xs = [x] ∧ LenV K x H n ∧ Q (.int n) H) := by
  intro G F H σ env xs vs k Q rep ps h q
  unfold fLen at h
  split at h
  · obtain ⟨v, rfl, p⟩ := ps.one
    obtain ⟨a, ws, rfl, h1, d1⟩ := p.lst rep.gh
    exact ⟨_, _, rfl, .inl ⟨ws, .inl h1, rfl⟩, by rw [rps_len d1]; exact q _ _ G H h idS (.of rep (.int _))⟩
  · obtain ⟨v, rfl, p⟩ := ps.one
    obtain ⟨a, ws, rfl, h1, d1⟩ := p.tup
    exact ⟨_, _, rfl, .inr ⟨ws, (tq_mono rep.gh h1).sq, rfl⟩, by rw [rps_len d1]; exact q _ _ G H h idS (.of rep (.int _))⟩
  · obtain ⟨v, rfl, p⟩ := ps.one
    rw [p.str]
    exact ⟨_, _, rfl, ⟨h.1, rfl⟩, q _ _ G H h.2 idS (.of rep (.int _))⟩
  · exact h.elim
def fInt : FN := fun xs k => match xs with
  | [.int i] => k (.d (.int i))
  | [.bool b] => k (.d (.int (if b then 1 else 0)))
  | _ => False
theorem fInt_mono : fInt.Mono := by
  intro xs k k' f h
  unfold fInt at *
  split at h
  · exact f _ h
  · exact f _ h
  · exact h.elim
theorem fInt_ok {K : Fg} : fInt.Ok K (fun xs H Q => (∃ i, xs = [.int i] ∧ Q (.int i) H) ∨ ∃ k, xs = [.bl k] ∧ Q (.int (if k then 1 else 0)) H) := by
  intro G F H σ env xs vs k Q rep ps h q
  unfold fInt at h
  split at h
  · obtain ⟨v, rfl, p⟩ := ps.one
    rw [p.int]
    exact .inl ⟨_, rfl, q _ _ G H h idS (.of rep (.int _))⟩
  · obtain ⟨v, rfl, p⟩ := ps.one
    rw [p.bl]
    exact .inr ⟨_, rfl, q _ _ G H h idS (.of rep (.int _))⟩
  · exact h.elim
/-- one int to an int -/
def fI1 (C : Int → Prop) (g : Int → Int) : FN := fun xs k => match xs with
  | [.int i] => C i ∧ k (.d (.int (g i)))
  | _ => False
theorem fI1_mono {C : Int → Prop} {g : Int → Int} : (fI1 C g).Mono := by
  intro xs k k' f h
  unfold fI1 at *
  split at h
  · exact ⟨h.1, f _ h.2⟩
  · exact h.elim
theorem fAbs_ok {K : Fg} : (fI1 (fun _ => True) fun i => if i < 0 then -i else i).Ok K (fun xs H Q => ∃ i, xs = [.int i] ∧ Q (.int (if i < 0 then -i else i)) H) := by
  intro G F H σ env xs vs k Q rep ps h q
  unfold fI1 at h
  split at h
  · obtain ⟨v, rfl, p⟩ := ps.one
    rw [p.int]
    exact ⟨_, rfl, q _ _ G H h.2 idS (.of rep (.int _))⟩
  · exact h.elim
/-- two ints to an int -/
def fI2 (C : Int → Int → Prop) (g : Int → Int → Int) : FN := fun xs k => match xs with
  | [.int i, .int j] => C i j ∧ k (.d (.int (g i j)))
  | _ => False
theorem fI2_mono {C : Int → Int → Prop} {g : Int → Int → Int} : (fI2 C g).Mono := by
  intro xs k k' f h
  unfold fI2 at *
  split at h
  · exact ⟨h.1, f _ h.2⟩
  · exact h.elim
theorem fI2_ok {K : Fg} {C : Int → Int → Prop} {g : Int → Int → Int} : (fI2 C g).Ok K (fun xs H Q => ∃ i j, xs = [.int i, .int j] ∧ C i j ∧ Q (.int (g i j)) H) := by
  intro G F H σ env xs vs k Q rep ps h q
  unfold fI2 at h
  split at h
  · obtain ⟨v, u, rfl, p, p'⟩ := ps.two
    rw [p.int, p'.int]
    exact ⟨_, _, rfl, h.1, q _ _ G H h.2 idS (.of rep (.int _))⟩
  · exact h.elim
theorem CallR.imp {X : Cx} {f : Value} {r r' : List V → Hp → VK → Prop} (h : CallR X f r) (g : ∀ vs H Q, r' vs H Q → r vs H Q) : CallR X f r' := fun pins s σ H vs us Q I rv q => h pins s σ H vs us Q I rv (g _ _ _ q)
def fMax2 : FN := fI2 (fun _ _ => True) fun i j => if j > i then j else i
def fMin2 : FN := fI2 (fun _ _ => True) fun i j => if j < i then j else i
def fGcd : FN := fI2 (fun _ _ => True) fun a b => ((Nat.gcd a.natAbs b.natAbs : Nat) : Int)
def CLcm (a b : Int) : Prop := a.natAbs.log2 < 13000 ∧ b.natAbs.log2 < 13000
def fLcm : FN := fI2 CLcm fun a b => ((Nat.lcm a.natAbs b.natAbs : Nat) : Int)
theorem log2_lt_of_lt {n k : Nat} (h : n < 2 ^ k) (hk : 0 < k) : n.log2 < k := PySem.Flt.log2_lt_of hk h
theorem cr_lcm {X : Cx} : CallR X (.builtin "math.lcm") (fun xs H Q => ∃ i j, xs = [.int i, .int j] ∧ CLcm i j ∧ Q (.int ((Nat.lcm i.natAbs j.natAbs : Nat) : Int)) H) := by
  intro pins s σ H vs us Q I r h
  obtain ⟨a, b, rfl, ⟨ha, hb⟩, q⟩ := h
  obtain ⟨t, u, rfl⟩ := Vals.int2 r
  have lt : ∀ n : Nat, n.log2 < 13000 → n < 2 ^ 13000 := fun n h => by
    by_cases h0 : n = 0
    · rw [h0]; exact Nat.two_pow_pos _
    · exact (Nat.log2_lt h0).mp h
  have h1 : (max 1 a.natAbs).log2 < 13000 := log2_lt_of_lt (by rw [Nat.max_lt]; exact ⟨Nat.one_lt_two_pow (by decide), lt _ ha⟩) (by decide)
  have h2 : (max a.natAbs b.natAbs).log2 < 13000 := log2_lt_of_lt (by rw [Nat.max_lt]; exact ⟨lt _ ha, lt _ hb⟩) (by decide)
  have h3 : (((Nat.lcm 1 a.natAbs).lcm b.natAbs : Nat) : Int).natAbs.log2 < bitsLine := by
    rw [Int.natAbs_natCast, PySem.W.mc_lcm_one]
    have h4 : a.natAbs.lcm b.natAbs < 2 ^ 26000 := by
      refine Nat.lt_of_le_of_lt (PySem.W.mc_lcm_le _ _) ?_
      rw [show (26000 : Nat) = 13000 + 13000 from rfl, Nat.pow_add]
      exact Nat.mul_lt_mul'' (lt _ ha) (lt _ hb)
    exact Nat.lt_of_lt_of_le (log2_lt_of_lt h4 (by decide)) (by decide)
  refine PySem.call_function_meets PySem.W.MGF.kind_lcm PySem.W.MGF.plain_lcm PySem.W.MGF.entry_lcm (PySem.W.MGF.args_lcm _ _) (PySem.W.mg_run_lcm a t b u (by omega) (by omega) h3).meets ?_
  rw [PySem.W.mc_lcm_one]
  exact ⟨.int _, H, I.tok _, ⟨_, rfl⟩, q⟩
end Pf
namespace Pf
open PySem PySem.Spec PyProof.Rows L2
theorem Pks.lists {K : Fg} {G H : Hp} {vs : List V} {ys : List D} (h : Pks K G H vs [.list ys]) (s : Same G H) : ∃ p ws, vs = [.ref p] ∧ Rd H p (.lst ws) ∧ RpAll K G ws ys := by
  obtain ⟨v, rfl, p⟩ := h.one
  obtain ⟨a, ws, rfl, h1, d1⟩ := p.lst s
  exact ⟨a, ws, rfl, h1, d1⟩
/-! ### tuple(..), list(..) -/
def fTuple : FN := fun xs k => match xs with
  | [.list ys] => k (.d (.tuple ys))
  | [.tuple ys] => k (.d (.tuple ys))
  | _ => False
theorem fTuple_mono : fTuple.Mono := by
  intro xs k k' f h
  unfold fTuple at *
  split at h
  · exact f _ h
  · exact f _ h
  · exact h.elim
theorem fTuple_ok {K : Fg} : fTuple.Ok K (fun xs H Q => ∃ p ys, xs = [.ref p] ∧ ((SqL K H p ys ∧ ∀ l o, o.dict = none → H l = none → Q (.ref l) (upd H l (.frz o (.tup ys)))) ∨ (SqT K H p ys ∧ Q (.ref p) H))) := by
  intro G F H σ env xs vs k Q rep ps h q
  unfold fTuple at h
  split at h
  · obtain ⟨a, ws, rfl, h1, d1⟩ := ps.lists rep.gh
    refine ⟨a, ws, rfl, .inl ⟨.inl h1, fun l o ho hl => ?_⟩⟩
    have r2 := rep.tup hl ho d1
    exact q _ _ _ _ h r2.1 r2.2
  · obtain ⟨v, rfl, p⟩ := ps.one
    obtain ⟨a, ws, rfl, h1, d1⟩ := p.tup
    exact ⟨a, ws, rfl, .inr ⟨(tq_mono rep.gh h1).sq, q _ _ G H h idS (.of rep (.tup h1 d1))⟩⟩
  · exact h.elim
def fList : FN := fun xs k => match xs with
  | [.list ys] => k (.own ys)
  | [.tuple ys] => k (.own ys)
  | [.str s] => s.length ≤ sizeLine ∧ k (.own (s.cps.toList.map fun c => .str ⟨#[c]⟩))
  | _ => False
theorem fList_mono : fList.Mono := by
  intro xs k k' f h
  unfold fList at *
  split at h
  · exact f _ h
  · exact f _ h
  · exact ⟨h.1, f _ h.2⟩
  · exact h.elim
/-- list(text) -/
def rListS : List V → Hp → VK → Prop := fun xs H Q => ∃ s : Str, xs = [.str s] ∧ s.length ≤ sizeLine ∧ ∀ l, H l = none → Q (.ref l) (upd H l (.lst (s.cps.toList.map fun c => V.str ⟨#[c]⟩)))
theorem signs_vals {z : Str} : ∀ (cs : List Nat) (us : List Value), us.length = cs.length → (∀ (j : Nat) (u : Value), us[j]? = some u → ∃ (c : Nat) (t : Tok), cs[j]? = some c ∧ u = .str ⟨#[c]⟩ t) → Vals (cs.map fun c => V.str ⟨#[c]⟩) us
  | [], [], _, _ => .nil
  | [], _ :: _, h, _ => by simp at h
  | _ :: _, [], h, _ => by simp at h
  | c :: cs, u :: us, h, f => by
    obtain ⟨c', t, e1, e2⟩ := f 0 u rfl
    simp at e1
    subst e1
    exact .cons ⟨t, e2⟩ (signs_vals (z := z) cs us (by simpa using h) fun j u hj => f (j + 1) u (by simpa using hj))
theorem cr_listS {X : Cx} (hc : X.calm = true) : CallR X (.type "list") rListS := by
  intro pins s σ H vs us Q I r h
  obtain ⟨z, rfl, hz, q⟩ := h
  obtain ⟨u, rfl, t, rfl⟩ := vals1 r
  refine PySem.call_list_str (I.ok.hd hc) z t (fun h' tk acc' c' hk e' hi => ?_) hz
  have hv : Vals (z.cps.toList.map fun c => V.str ⟨#[c]⟩) acc'.toList := by
    refine signs_vals (z := z) _ _ (by rw [Array.length_toList, Array.length_toList]; exact hi.1) fun j u hj => ?_
    obtain ⟨c, t, h1, h2⟩ := hi.2 j u (by rw [← hj, Array.getElem?_toList])
    exact ⟨c, t, by rw [Array.getElem?_toList]; exact h1, h2⟩
  refine ⟨.ref s.heap.objs.size, upd H s.heap.objs.size (.lst (z.cps.toList.map fun c => V.str ⟨#[c]⟩)), I.laid hk (Nat.le_refl _) (show ObjOk X.prog X.w _ _ _ (.lst _) from ⟨?_, acc'.toList, c', hv, ?_⟩), rfl, q _ (I.hok.fresh (Nat.le_refl _))⟩
  · rw [List.length_map, Array.length_toList]; exact hz
  · rw [Array.toArray_toList]; exact e'
theorem rps_signs {K : Fg} {G : Hp} : ∀ cs : List Nat, RpAll K G (cs.map fun c => V.str ⟨#[c]⟩) (cs.map fun c => PyData.str ⟨#[c]⟩)
  | [] => .nil
  | c :: cs => .cons (.str _) (rps_signs cs)
theorem fList_ok {K : Fg} : fList.Ok K (fun xs H Q => (∃ p ys, xs = [.ref p] ∧ (SqL K H p ys ∨ SqT K H p ys) ∧ ∀ l, H l = none → Q (.ref l) (upd H l (.lst ys))) ∨ rListS xs H Q) := by
  intro G F H σ env xs vs k Q rep ps h q
  unfold fList at h
  split at h
  · obtain ⟨a, ws, rfl, h1, d1⟩ := ps.lists rep.gh
    exact .inl ⟨a, ws, rfl, .inl (.inl h1), fun l hl => q _ _ G _ h idS (rep.lst hl d1)⟩
  · obtain ⟨v, rfl, p⟩ := ps.one
    obtain ⟨a, ws, rfl, h1, d1⟩ := p.tup
    exact .inl ⟨a, ws, rfl, .inr ((tq_mono rep.gh h1).sq), fun l hl => q _ _ G _ h idS (rep.lst hl d1)⟩
  · obtain ⟨v, rfl, p⟩ := ps.one
    rw [p.str]
    exact .inr ⟨_, rfl, h.1, fun l hl => q _ _ G _ h.2 idS (rep.lst hl (rps_signs _))⟩
  · exact h.elim
/-! ### sum, max, min, all, any, sorted -/
def intsOf : List D → Option (List Int)
  | [] => some []
  | .int i :: xs => (intsOf xs).map (i :: ·)
  | _ => none
def boolsOf : List D → Option (List Bool)
  | [] => some []
  | .bool i :: xs => (boolsOf xs).map (i :: ·)
  | _ => none
def strsOf : List D → Option (List Str)
  | [] => some []
  | .str i :: xs => (strsOf xs).map (i :: ·)
  | _ => none
theorem rps_intsOf {K : Fg} {G : Hp} : ∀ {xs : List D} {vs : List V} {ns : List Int}, RpAll K G vs xs → intsOf xs = some ns → vs = ns.map V.int
  | [], _, ns, .nil, e => by
    cases e
    rfl
  | x :: xs, _, ns, .cons h t, e => by
    cases h with
    | int i =>
      obtain ⟨ms, e1, e2⟩ := Option.map_eq_some_iff.mp (show (intsOf xs).map (i :: ·) = some ns from e)
      subst e2
      rw [rps_intsOf t e1]
      rfl
    | _ => cases e
theorem rps_boolsOf {K : Fg} {G : Hp} : ∀ {xs : List D} {vs : List V} {ns : List Bool}, RpAll K G vs xs → boolsOf xs = some ns → vs = ns.map V.bl
  | [], _, ns, .nil, e => by
    cases e
    rfl
  | x :: xs, _, ns, .cons h t, e => by
    cases h with
    | bl i =>
      obtain ⟨ms, e1, e2⟩ := Option.map_eq_some_iff.mp (show (boolsOf xs).map (i :: ·) = some ns from e)
      subst e2
      rw [rps_boolsOf t e1]
      rfl
    | _ => cases e
theorem rps_strsOf {K : Fg} {G : Hp} : ∀ {xs : List D} {vs : List V} {ns : List Str}, RpAll K G vs xs → strsOf xs = some ns → vs = ns.map V.str
  | [], _, ns, .nil, e => by
    cases e
    rfl
  | x :: xs, _, ns, .cons h t, e => by
    cases h with
    | str i =>
      obtain ⟨ms, e1, e2⟩ := Option.map_eq_some_iff.mp (show (strsOf xs).map (i :: ·) = some ns from e)
      subst e2
      rw [rps_strsOf t e1]
      rfl
    | _ => cases e
theorem intsOf_map : ∀ ns : List Int, intsOf (ns.map PyData.int) = some ns
  | [] => rfl
  | n :: ns => by rw [List.map_cons, intsOf, intsOf_map ns]; rfl
theorem boolsOf_map : ∀ ns : List Bool, boolsOf (ns.map PyData.bool) = some ns
  | [] => rfl
  | n :: ns => by rw [List.map_cons, boolsOf, boolsOf_map ns]; rfl
theorem strsOf_map : ∀ ns : List Str, strsOf (ns.map PyData.str) = some ns
  | [] => rfl
  | n :: ns => by rw [List.map_cons, strsOf, strsOf_map ns]; rfl
def fSum : FN := fun xs k => match xs with
  | [.list ys] => ∃ ns, intsOf ys = some ns ∧ k (.d (.int ns.sum))
  | _ => False
theorem fSum_mono : fSum.Mono := by
  intro xs k k' f h
  unfold fSum at *
  split at h
  · obtain ⟨ns, e, h⟩ := h; exact ⟨ns, e, f _ h⟩
  · exact h.elim
theorem fSum_ok {K : Fg} : fSum.Ok K (rSum K) := by
  intro G F H σ env xs vs k Q rep ps h q
  unfold fSum at h
  split at h
  · obtain ⟨ns, e, h⟩ := h
    obtain ⟨a, ws, rfl, h1, d1⟩ := ps.lists rep.gh
    have ew := rps_intsOf d1 e
    subst ew
    exact ⟨a, ns, rfl, .inl h1, q _ _ G H h idS (.of rep (.int _))⟩
  · exact h.elim
/-- the greatest, the least of a list of ints -/
def fExt (lt : Int → Int → Prop) : FN := fun xs k => match xs with
  | [.list ys] => ∃ ns, intsOf ys = some ns ∧ 0 < ns.length ∧ ∀ m, m ∈ ns → (∀ y, y ∈ ns → lt y m) → k (.d (.int m))
  | _ => False
theorem fExt_mono {lt : Int → Int → Prop} : (fExt lt).Mono := by
  intro xs k k' f h
  unfold fExt at *
  split at h
  · obtain ⟨ns, e, e2, h⟩ := h; exact ⟨ns, e, e2, fun m a b => f _ (h m a b)⟩
  · exact h.elim
theorem fMax_ok {K : Fg} : (fExt fun y m => y ≤ m).Ok K (rMax K) := by
  intro G F H σ env xs vs k Q rep ps h q
  unfold fExt at h
  split at h
  · obtain ⟨ns, e, e2, h⟩ := h
    obtain ⟨a, ws, rfl, h1, d1⟩ := ps.lists rep.gh
    have ew := rps_intsOf d1 e
    subst ew
    exact ⟨a, ns, rfl, .inl h1, e2, fun m m1 m2 => q _ _ G H (h m m1 m2) idS (.of rep (.int _))⟩
  · exact h.elim
theorem fMin_ok {K : Fg} : (fExt fun y m => m ≤ y).Ok K (rMin K) := by
  intro G F H σ env xs vs k Q rep ps h q
  unfold fExt at h
  split at h
  · obtain ⟨ns, e, e2, h⟩ := h
    obtain ⟨a, ws, rfl, h1, d1⟩ := ps.lists rep.gh
    have ew := rps_intsOf d1 e
    subst ew
    exact ⟨a, ns, rfl, .inl h1, e2, fun m m1 m2 => q _ _ G H (h m m1 m2) idS (.of rep (.int _))⟩
  · exact h.elim
def fBools (g : List Bool → Bool) : FN := fun xs k => match xs with
  | [.list ys] => ∃ ns, boolsOf ys = some ns ∧ k (.d (.bool (g ns)))
  | _ => False
theorem fBools_mono {g : List Bool → Bool} : (fBools g).Mono := by
  intro xs k k' f h
  unfold fBools at *
  split at h
  · obtain ⟨ns, e, h⟩ := h; exact ⟨ns, e, f _ h⟩
  · exact h.elim
theorem fAny_ok {K : Fg} : (fBools fun bs => bs.any id).Ok K (rAny K) := by
  intro G F H σ env xs vs k Q rep ps h q
  unfold fBools at h
  split at h
  · obtain ⟨ns, e, h⟩ := h
    obtain ⟨a, ws, rfl, h1, d1⟩ := ps.lists rep.gh
    have ew := rps_boolsOf d1 e
    subst ew
    exact ⟨a, ns, rfl, .inl h1, q _ _ G H h idS (.of rep (.bl _))⟩
  · exact h.elim
theorem fAll_ok {K : Fg} : (fBools fun bs => bs.all id).Ok K (rAll K) := by
  intro G F H σ env xs vs k Q rep ps h q
  unfold fBools at h
  split at h
  · obtain ⟨ns, e, h⟩ := h
    obtain ⟨a, ws, rfl, h1, d1⟩ := ps.lists rep.gh
    have ew := rps_boolsOf d1 e
    subst ew
    exact ⟨a, ns, rfl, .inl h1, q _ _ G H h idS (.of rep (.bl _))⟩
  · exact h.elim
/-- sorted, of ints -/
def fSorted : FN := fun xs k => match xs with
  | [.list ys] => ∃ ns, intsOf ys = some ns ∧ ns.length < 64 ∧ ∀ ns' : List Int, ns'.Perm ns → ns'.Pairwise (· ≤ ·) → k (.own (ns'.map PyData.int))
  | _ => False
theorem fSorted_mono : fSorted.Mono := by
  intro xs k k' f h
  unfold fSorted at *
  split at h
  · obtain ⟨ns, e, e2, h⟩ := h; exact ⟨ns, e, e2, fun m a b => f _ (h m a b)⟩
  · exact h.elim
theorem fSorted_ok {K : Fg} : fSorted.Ok K (rSorted K) := by
  intro G F H σ env xs vs k Q rep ps h q
  unfold fSorted at h
  split at h
  · obtain ⟨ns, e, e2, h⟩ := h
    obtain ⟨a, ws, rfl, h1, d1⟩ := ps.lists rep.gh
    have ew := rps_intsOf d1 e
    subst ew
    exact ⟨a, ns, rfl, .inl h1, e2, fun ns' p m1 m2 hp => q _ _ G _ (h ns' m1 m2) idS (rep.lst hp (ints_rps ns'))⟩
  · exact h.elim
/-- str(int) -/
def fStr : FN := fun xs k => match xs with
  | [.int i] => i.natAbs.log2 < 1920 ∧ k (.d (.str (toString i)))
  | _ => False
theorem fStr_mono : fStr.Mono := by
  intro xs k k' f h
  unfold fStr at *
  split at h
  · exact ⟨h.1, f _ h.2⟩
  · exact h.elim
theorem fStr_ok {K : Fg} : fStr.Ok K (fun xs H Q => ∃ i, xs = [.int i] ∧ i.natAbs.log2 < 1920 ∧ Q (.str (toString i)) H) := by
  intro G F H σ env xs vs k Q rep ps h q
  unfold fStr at h
  split at h
  · obtain ⟨v, rfl, p⟩ := ps.one
    rw [p.int]
    exact ⟨_, rfl, h.1, q _ _ G H h.2 idS (.of rep (.str _))⟩
  · exact h.elim
section
variable {X : Cx} {e : Expr} {es : List Expr} {p pos : Pos} {ra : RA}
theorem qe_len (hm : X.mg "len" = none) (ha : QA X [e] ra) (hg : Gl X "len" := by rfl) (he : starEach [e] X.env = (false, eval e X.env) :: starEach [] X.env := by rfl) (hpl : (backTo pos (starEach [] X.env)).any (·.1) = false := by rfl) : QE X (.Call (.Name "len" p) [e] [] pos) (rCB fLen ra) := qe_callB call_len fLen_ok fLen_mono hm ha PySem.boot_len hg (by decide) (by decide) he hpl
theorem qe_int (hm : X.mg "int" = none) (ha : QA X [e] ra) (hg : Gl X "int" := by rfl) (he : starEach [e] X.env = (false, eval e X.env) :: starEach [] X.env := by rfl) (hpl : (backTo pos (starEach [] X.env)).any (·.1) = false := by rfl) : QE X (.Call (.Name "int" p) [e] [] pos) (rCB fInt ra) := qe_callTy call_int1 fInt_ok fInt_mono hm ha (by decide +kernel) hg (by decide) (by decide) he hpl
theorem qe_abs (hm : X.mg "abs" = none) (ha : QA X [e] ra) (hg : Gl X "abs" := by rfl) (he : starEach [e] X.env = (false, eval e X.env) :: starEach [] X.env := by rfl) (hpl : (backTo pos (starEach [] X.env)).any (·.1) = false := by rfl) : QE X (.Call (.Name "abs" p) [e] [] pos) (rCB (fI1 (fun _ => True) fun i => if i < 0 then -i else i) ra) := qe_callB call_abs fAbs_ok fI1_mono hm ha (by decide +kernel) hg (by decide) (by decide) he hpl
theorem qe_tuple (hm : X.mg "tuple" = none) (ha : QA X [e] ra) (hg : Gl X "tuple" := by rfl) (he : starEach [e] X.env = (false, eval e X.env) :: starEach [] X.env := by rfl) (hpl : (backTo pos (starEach [] X.env)).any (·.1) = false := by rfl) : QE X (.Call (.Name "tuple" p) [e] [] pos) (rCB fTuple ra) := qe_callTy call_tupleF fTuple_ok fTuple_mono hm ha (by decide +kernel) hg (by decide) (by decide) he hpl
theorem qe_list (hc : X.calm = true) (hm : X.mg "list" = none) (ha : QA X [e] ra) (hg : Gl X "list" := by rfl) (he : starEach [e] X.env = (false, eval e X.env) :: starEach [] X.env := by rfl) (hpl : (backTo pos (starEach [] X.env)).any (·.1) = false := by rfl) : QE X (.Call (.Name "list" p) [e] [] pos) (rCB fList ra) := qe_callTy (CallR.or call_list_of (cr_listS hc)) fList_ok fList_mono hm ha (by decide +kernel) hg (by decide) (by decide) he hpl
theorem qe_sum (hc : X.calm = true) (hm : X.mg "sum" = none) (ha : QA X [e] ra) (hg : Gl X "sum" := by rfl) (he : starEach [e] X.env = (false, eval e X.env) :: starEach [] X.env := by rfl) (hpl : (backTo pos (starEach [] X.env)).any (·.1) = false := by rfl) : QE X (.Call (.Name "sum" p) [e] [] pos) (rCB fSum ra) := qe_callB (cr_sum hc) fSum_ok fSum_mono hm ha (by decide +kernel) hg (by decide) (by decide) he hpl
theorem qe_max (hc : X.calm = true) (hm : X.mg "max" = none) (ha : QA X [e] ra) (hg : Gl X "max" := by rfl) (he : starEach [e] X.env = (false, eval e X.env) :: starEach [] X.env := by rfl) (hpl : (backTo pos (starEach [] X.env)).any (·.1) = false := by rfl) : QE X (.Call (.Name "max" p) [e] [] pos) (rCB (fExt fun y m => y ≤ m) ra) := qe_callB (cr_max hc) fMax_ok fExt_mono hm ha (by decide +kernel) hg (by decide) (by decide) he hpl
theorem qe_any (hc : X.calm = true) (hm : X.mg "any" = none) (ha : QA X [e] ra) (hg : Gl X "any" := by rfl) (he : starEach [e] X.env = (false, eval e X.env) :: starEach [] X.env := by rfl) (hpl : (backTo pos (starEach [] X.env)).any (·.1) = false := by rfl) : QE X (.Call (.Name "any" p) [e] [] pos) (rCB (fBools fun bs => bs.any id) ra) := qe_callB (cr_any hc) fAny_ok fBools_mono hm ha (by decide +kernel) hg (by decide) (by decide) he hpl
theorem qe_all (hc : X.calm = true) (hm : X.mg "all" = none) (ha : QA X [e] ra) (hg : Gl X "all" := by rfl) (he : starEach [e] X.env = (false, eval e X.env) :: starEach [] X.env := by rfl) (hpl : (backTo pos (starEach [] X.env)).any (·.1) = false := by rfl) : QE X (.Call (.Name "all" p) [e] [] pos) (rCB (fBools fun bs => bs.all id) ra) := qe_callB (cr_all hc) fAll_ok fBools_mono hm ha (by decide +kernel) hg (by decide) (by decide) he hpl
theorem qe_sorted (hm : X.mg "sorted" = none) (ha : QA X [e] ra) (hg : Gl X "sorted" := by rfl) (he : starEach [e] X.env = (false, eval e X.env) :: starEach [] X.env := by rfl) (hpl : (backTo pos (starEach [] X.env)).any (·.1) = false := by rfl) : QE X (.Call (.Name "sorted" p) [e] [] pos) (rCB fSorted ra) := qe_callB cr_sorted fSorted_ok fSorted_mono hm ha (by decide +kernel) hg (by decide) (by decide) he hpl
theorem qe_str1 (hm : X.mg "str" = none) (ha : QA X [e] ra) (hg : Gl X "str" := by rfl) (he : starEach [e] X.env = (false, eval e X.env) :: starEach [] X.env := by rfl) (hpl : (backTo pos (starEach [] X.env)).any (·.1) = false := by rfl) : QE X (.Call (.Name "str" p) [e] [] pos) (rCB fStr ra) := qe_callTy call_str_int fStr_ok fStr_mono hm ha (by decide +kernel) hg (by decide) (by decide) he hpl
theorem qe_gcd (hm : X.mg "gcd" = some (.builtin "math.gcd")) (ha : QA X (e :: es) ra) (hg : Gl X "gcd" := by rfl) (he : starEach (e :: es) X.env = (false, eval e X.env) :: starEach es X.env := by rfl) (hpl : (backTo pos (starEach es X.env)).any (·.1) = false := by rfl) : QE X (.Call (.Name "gcd" p) (e :: es) [] pos) (rCB fGcd ra) := qe_callM (r := fun xs H Q => ∃ i j, xs = [.int i, .int j] ∧ True ∧ Q (.int ((Nat.gcd i.natAbs j.natAbs : Nat) : Int)) H) (CallR.imp cr_gcd fun vs H Q ⟨i, j, e, _, q⟩ => ⟨i, j, e, q⟩) fI2_ok fI2_mono hm ha hg (by decide) he hpl
theorem qe_lcm (hm : X.mg "lcm" = some (.builtin "math.lcm")) (ha : QA X (e :: es) ra) (hg : Gl X "lcm" := by rfl) (he : starEach (e :: es) X.env = (false, eval e X.env) :: starEach es X.env := by rfl) (hpl : (backTo pos (starEach es X.env)).any (·.1) = false := by rfl) : QE X (.Call (.Name "lcm" p) (e :: es) [] pos) (rCB fLcm ra) := qe_callM cr_lcm fI2_ok fI2_mono hm ha hg (by decide) he hpl
end
end Pf
set_option Elab.async false
set_option linter.all false
set_option maxRecDepth 100000
set_option maxHeartbeats 4000000
/-! Pf: calls of the text's own defs. -/
namespace Pf
open PySem PySem.Spec PyProof.Rows L2

/-- a def's promise over things: what it asks of its arguments, what it gives back and what becomes of the arguments that are its caller's own -/
abbrev FSp := List O → (O → List O → Prop) → Prop
def SpOf (K : Fg) (sp : FSp) : Sp := fun vs H Q _ => ∃ os G F, Rep K G F H (vs.map some) (os.map some) ∧ sp os fun o os' => ∀ v G' H', Same G G' → RepV K G' F H' (vs.map some) (os'.map some) v o → Q v H'

def takeA (e : Env) : List Arg → (List O → List (Option Nat) → Env → Prop) → Prop
  | [], k => k [] [] e
  | .val x :: as, k => takeA e as fun os rs e' => k (.d x :: os) (none :: rs) e'
  | .bor i :: as, k => match e[i]? with
    | some (some (.d x)) => takeA e as fun os rs e' => k (.d x :: os) (none :: rs) e'
    | some (some o) => takeA (e.set i none) as fun os rs e' => k (o :: os) (some i :: rs) e'
    | _ => False
def putA (e : Env) : List (Option Nat) → List O → Env
  | [], _ => e
  | none :: rs, os => putA e rs os.tail
  | some i :: rs, os => putA (e.set i os.head?) rs os.tail
theorem takeA_mono {k k' : List O → List (Option Nat) → Env → Prop} (f : ∀ a b c, k a b c → k' a b c) : ∀ {as : List Arg} {e : Env}, takeA e as k → takeA e as k'
  | [], e, h => f _ _ _ h
  | .val x :: as, e, h => takeA_mono (k := fun os rs e' => k (.d x :: os) (none :: rs) e') (fun a b c => f _ _ _) h
  | .bor i :: as, e, h => by
    unfold takeA at h ⊢
    split at h
    · exact takeA_mono (fun a b c => f _ _ _) h
    · exact takeA_mono (fun a b c => f _ _ _) h
    · exact h.elim

theorem perm_mid {α : Type} (a b c : List α) : (a ++ (b ++ c)).Perm (b ++ (a ++ c)) := by
  rw [← List.append_assoc, ← List.append_assoc]
  exact List.Perm.append_right c List.perm_append_comm

inductive PutOk (σ : L2.St) : Env → List V → List (Option Nat) → Prop
  | nil {e : Env} : PutOk σ e [] []
  | no {e : Env} {v : V} {vs : List V} {rs : List (Option Nat)} : PutOk σ e vs rs → PutOk σ e (v :: vs) (none :: rs)
  | at {e : Env} {v : V} {vs : List V} {rs : List (Option Nat)} {i : Nat} : e[i]? = some none → σ[i]? = some (some v) → (∀ oo, PutOk σ (e.set i oo) vs rs) → PutOk σ e (v :: vs) (some i :: rs)
theorem PutOk.set {σ : L2.St} : ∀ {vs : List V} {rs : List (Option Nat)} {e : Env} {i : Nat} {oo : Option O}, PutOk σ e vs rs → some i ∉ rs → PutOk σ (e.set i oo) vs rs
  | [], _, _, _, _, .nil, _ => .nil
  | _ :: _, _, _, _, _, .no h, n => .no (PutOk.set h fun m => n (List.mem_cons_of_mem _ m))
  | _ :: _, _, e, i, oo, .at (i := j) h1 h2 h3, n => by
    have ne : i ≠ j := fun z => n (by rw [z]; exact List.mem_cons_self)
    refine .at ?_ h2 fun oo' => ?_
    · rw [List.getElem?_set_ne ne]
      exact h1
    · rw [List.set_comm _ _ ne]
      exact PutOk.set (h3 oo') fun m => n (List.mem_cons_of_mem _ m)
theorem putA_ok {K : Fg} {G H : Hp} {σ : L2.St} : ∀ {vs : List V} {rs : List (Option Nat)} {os : List O} {e : Env} {fpA fp : List Addr}, Slots K G H (vs.map some) (os.map some) fpA → Slots K G H σ e fp → PutOk σ e vs rs →
    ∃ fpX fp', fpX.Sublist fpA ∧ fp'.Perm (fpX ++ fp) ∧ Slots K G H σ (putA e rs os) fp'
  | [], _, os, e, fpA, fp, sa, s, .nil => ⟨[], fp, List.nil_sublist _, .refl _, s⟩
  | v :: vs, _, os, e, fpA, fp, sa, s, .no h => by
    cases os with
    | nil => cases sa
    | cons o os =>
      cases sa with
      | one r t =>
        obtain ⟨fpX, fp', h1, h2, h3⟩ := putA_ok t s h
        exact ⟨fpX, fp', h1.trans (List.sublist_append_right _ _), h2, h3⟩
  | v :: vs, _, os, e, fpA, fp, sa, s, .at (rs := rs) (i := i) h1 h2 h3 => by
    cases os with
    | nil => cases sa
    | cons o os =>
      cases sa with
      | one r t =>
        rename_i fp1 fpB
        obtain ⟨fa, f1, fb, x, e1, e2, e3, g⟩ := s.split h1
        have e3 : f1 = [] := e3
        subst e3 e1
        rw [h2] at e2
        cases e2
        have s2 := g G H (some v) (some o) fp1 idS (fun _ _ => rfl) ⟨v, rfl, r⟩
        rw [set_self h2] at s2
        obtain ⟨fpX, fp', g1, g2, g3⟩ := putA_ok t s2 (h3 (some o))
        refine ⟨fp1 ++ fpX, fp', (List.Sublist.refl _).append g1, ?_, g3⟩
        refine g2.trans ?_
        rw [List.nil_append]
        have p1 : (fa ++ (fp1 ++ fb)).Perm (fp1 ++ (fa ++ fb)) := perm_mid _ _ _
        have p2 : (fpX ++ (fa ++ (fp1 ++ fb))).Perm (fpX ++ (fp1 ++ (fa ++ fb))) := List.Perm.append_left _ p1
        refine p2.trans ?_
        rw [List.append_assoc]
        exact perm_mid _ _ _
theorem takeA_ok {K : Fg} {G H : Hp} {σ : L2.St} : ∀ {vs : List V} {as : List Arg} {e : Env} {fp : List Addr} {k : List O → List (Option Nat) → Env → Prop}, Slots K G H σ e fp → ArgsRep K G σ vs as → takeA e as k →
    ∃ os rs e1 fpA fp1, k os rs e1 ∧ Slots K G H (vs.map some) (os.map some) fpA ∧ Slots K G H σ e1 fp1 ∧ (fpA ++ fp1).Perm fp ∧ PutOk σ e1 vs rs ∧ ∀ i, e[i]? = some none → e1[i]? = some none ∧ some i ∉ rs
  | _, _, e, fp, k, s, .nil, h => ⟨[], [], e, [], fp, h, .nil, s, .refl _, .nil, fun i hi => ⟨hi, by simp⟩⟩
  | v :: vs, .val x :: as, e, fp, k, s, .cons a t, h => by
    obtain ⟨os, rs, e1, fpA, fp1, h1, h2, h3, h4, h5, h6⟩ := takeA_ok s t h
    exact ⟨_, _, e1, [] ++ fpA, fp1, h1, .one ⟨a, rfl⟩ h2, h3, h4, .no h5, fun i hi => ⟨(h6 i hi).1, fun m => (h6 i hi).2 (by simpa using m)⟩⟩
  | v :: vs, .bor i :: as, e, fp, k, s, .cons a t, h => by
    have a : σ[i]? = some (some v) := a
    unfold takeA at h
    split at h
    · rename_i x ex
      obtain ⟨os, rs, e1, fpA, fp1, h1, h2, h3, h4, h5, h6⟩ := takeA_ok s t h
      obtain ⟨fa, f1, fb, y, q1, q2, ⟨v2, q3, q4⟩, g⟩ := s.split ex
      rw [a] at q2
      cases q2
      cases q3
      exact ⟨_, _, e1, [] ++ fpA, fp1, h1, .one ⟨q4.1, rfl⟩ h2, h3, h4, .no h5, fun i hi => ⟨(h6 i hi).1, fun m => (h6 i hi).2 (by simpa using m)⟩⟩
    · rename_i o _ ex
      obtain ⟨fa, f1, fb, y, q1, q2, ⟨v2, q3, q4⟩, g⟩ := s.split ex
      rw [a] at q2
      cases q2
      cases q3
      have s2 := g G H (some v) none [] idS (fun _ _ => rfl) rfl
      rw [set_self a] at s2
      obtain ⟨os, rs, e1, fpA, fp1, h1, h2, h3, h4, h5, h6⟩ := takeA_ok s2 t h
      have hi : (e.set i none)[i]? = some none := by
        rw [List.getElem?_set_self]
        exact (List.getElem?_eq_some_iff.mp ex).1
      have h7 := h6 i hi
      refine ⟨_, _, e1, f1 ++ fpA, fp1, h1, .one q4 h2, h3, ?_, .at h7.1 a fun oo => h5.set h7.2, fun j hj => ?_⟩
      · rw [q1, List.append_assoc]
        exact (List.Perm.append_left f1 h4).trans (perm_mid _ _ _)
      · have ne : i ≠ j := fun z => by
          rw [z, hj] at ex
          cases ex
        have h8 := h6 j (by rw [List.getElem?_set_ne ne]; exact hj)
        exact ⟨h8.1, fun m => by
          rcases List.mem_cons.mp m with m | m
          · exact ne (Option.some.inj m).symm
          · exact h8.2 m⟩
    · exact h.elim
open Classical in
/-- a call: what is one's own is lent, and given back -/
def rCall (sp : FSp) (ra : RA) : RE := fun env Q => ra env fun as e => takeA e as fun os rs e1 => sp os fun o os' => Q o (putA e1 rs os')
def FSp.Mono (sp : FSp) : Prop := ∀ os (k k' : O → List O → Prop), (∀ a b, k a b → k' a b) → sp os k → sp os k'
theorem rCall_mono {sp : FSp} {ra : RA} (ms : sp.Mono) (ma : MonoK ra) : MonoK (rCall sp ra) := fun env Q Q' g h =>
  ma _ _ _ (fun as e z => takeA_mono (fun os rs e1 z => ms _ _ _ (fun o os' => g _ _) z) z) h
open Classical in
theorem spOf_of {K : Fg} {sp : FSp} (ms : sp.Mono) {G F H : Hp} {σ : L2.St} {e : Env} {vs : List V} {as : List Arg} {Q0 : O → Env → Prop} {Q : VK} {E : XK} (rep : Rep K G F H σ e) (ha : ArgsRep K G σ vs as) (h : takeA e as fun os rs e1 => sp os fun o os' => Q0 o (putA e1 rs os'))
    (q : ∀ o e' v G' H', Q0 o e' → Same G G' → RepV K G' F H' σ e' v o → Q v H') : SpOf K sp vs H Q E := by
  obtain ⟨fp, s, w⟩ := rep
  obtain ⟨os, rs, e1, fpA, fp1, h1, h2, h3, h4, h5, h6⟩ := takeA_ok s ha h
  have w2 : Hps G F H (fpA ++ fp1) := w.perm h4.symm
  have nd := List.nodup_append.mp w2.nd
  refine ⟨os, G, fun a => if a ∈ fp1 then H a else F a, ⟨fpA, h2, w2.gh, fun a o ea => ?_, fun a ea => ?_, nd.1, fun a m => w2.pg a (List.mem_append_left _ m), fun a m => ?_⟩, ?_⟩
  · by_cases m : a ∈ fp1
    · simp only [m, if_true] at ea
      exact ea
    · simp only [m, if_false] at ea
      exact w2.fh a o ea
  · by_cases m : a ∈ fp1
    · exact absurd (w2.pg a (List.mem_append_right _ m)) ea
    · simp only [m, if_false]
      exact w2.gf a ea
  · have m2 : a ∉ fp1 := fun m2 => nd.2.2 a m a m2 rfl
    simp only [m2, if_false]
    exact w2.pf a (List.mem_append_left _ m)
  · refine ms _ _ _ (fun o os' z v G' H' sG rv => ?_) h1
    obtain ⟨fpA', fpv, sA, ro, w3⟩ := rv
    have keep : ∀ a ∈ fp1, H' a = H a := fun a m => by
      cases ea : H a with
      | none => exact absurd ea (h3.dom a m)
      | some ob => exact w3.fh a ob (by simp only [m, if_true]; exact ea)
    obtain ⟨fpX, fp', g1, g2, g3⟩ := putA_ok sA (h3.mono sG keep) h5
    have fp1F : ∀ a ∈ fp1, (if a ∈ fp1 then H a else F a) ≠ none := fun a m => by
      simp only [m, if_true]
      exact h3.dom a m
    have p1 : (fpv ++ fp').Perm (fpv ++ (fpX ++ fp1)) := List.Perm.append_left _ g2
    have wX : Hps G' F H' (fpv ++ (fpX ++ fp1)) := by
      refine ⟨w3.gh, fun a o ea => w3.fh a o ?_, fun a ea => ?_, ?_, fun a m => ?_, fun a m => ?_⟩
      · have m2 : a ∉ fp1 := fun m2 => by
          rw [w2.pf a (List.mem_append_right _ m2)] at ea
          cases ea
        simp only [m2, if_false]
        exact ea
      · have := w3.gf a ea
        by_cases m : a ∈ fp1
        · exact w2.pf a (List.mem_append_right _ m)
        · simp only [m, if_false] at this
          exact this
      · have n3 := List.nodup_append.mp w3.nd
        rw [← List.append_assoc, List.nodup_append]
        refine ⟨(w3.nd.sublist ((List.Sublist.refl _).append g1)), nd.2.1, fun a m b m2 eab => ?_⟩
        subst eab
        have m3 : a ∈ fpv ++ fpA' := ((List.Sublist.refl fpv).append g1).subset m
        exact fp1F a m2 (w3.pf a m3)
      · rcases List.mem_append.mp m with m | m
        · exact w3.pg a (List.mem_append_left _ m)
        · rcases List.mem_append.mp m with m | m
          · exact w3.pg a (List.mem_append_right _ (g1.subset m))
          · refine none_of fun o eo => fp1F a m (w3.gf a (by rw [eo]; exact fun z => nomatch z))
      · rcases List.mem_append.mp m with m | m
        · have := w3.pf a (List.mem_append_left _ m)
          by_cases m2 : a ∈ fp1
          · exact w2.pf a (List.mem_append_right _ m2)
          · simp only [m2, if_false] at this
            exact this
        · rcases List.mem_append.mp m with m | m
          · have := w3.pf a (List.mem_append_right _ (g1.subset m))
            by_cases m2 : a ∈ fp1
            · exact w2.pf a (List.mem_append_right _ m2)
            · simp only [m2, if_false] at this
              exact this
          · exact w2.pf a (List.mem_append_right _ m)
    exact q o _ v G' H' z sG ⟨fp', fpv, g3, ro, wX.perm p1.symm⟩

/-- a def of the text: where it stands, how its arguments bind, its promise -/
structure Has (P : Program) (w : World) (K : Fg) (mg : Str → Option Value) (base : Heap) (x : Str) (ps : List Str) (k : Nat) (sp : FSp) : Prop where
  ex : ∃ f fd, mg x = some (.ref f) ∧ PySem.W.keepIn K (.ref f) = true ∧ Binds K fd ps [] ∧ FnOk P w K mg base CX0 k f fd ps (SpOf K sp)
  mono : sp.Mono
theorem qe_call {X : Cx} {x : Str} {p pos : Pos} {ps : List Str} {k : Nat} {sp : FSp} {e : Expr} {es : List Expr} {ra : RA} (h : Has X.prog X.w X.K X.mg X.base x ps k sp) (hr : Room k X.A) (ha : QA X (e :: es) ra) (hg : Gl X x := by rfl)
    (hdb : (x == ("__debug__" : Str)) = false := by decide) (he : starEach (e :: es) X.env = (false, eval e X.env) :: starEach es X.env := by rfl) (hpl : (backTo pos (starEach es X.env)).any (·.1) = false := by rfl) : QE X (.Call (.Name x p) (e :: es) [] pos) (rCall sp ra) := by
  obtain ⟨f, fd, hm, hk, hb, F⟩ := h.ex
  refine ⟨rCall_mono h.mono ha.mono, pe_imp (pe_call F hr hg hm hk hb .nil pass0 ha.run hdb he hpl) ?_⟩
  intro σ H Q ⟨env, G, F', rep, z⟩
  refine liftA_of ha.mono rep z fun as e vs G1 H1 h1 s1 rep1 d1 => ?_
  rw [List.append_nil]
  exact spOf_of (Q0 := fun o env' => ∀ v G' H', Same G G' → RepV X.K G' F' H' σ env' v o → Q v H') h.mono rep1 d1 h1 fun o e' v G' H' q s r => q v G' H' (s1.trans s) r
end Pf

namespace Pf
open PySem PySem.Spec PyProof.Rows L2
/-! ### a def's body -/
def env0 (N : List Str) (os : List O) : Env := os.map some ++ List.replicate (N.length - os.length) none
/-- what the arguments become: data stays, what is the caller's own is read off the parameter's slot -/
def finL : Env → List O → (List O → Prop) → Prop
  | _, [], k => k []
  | _ :: e, .d x :: os, k => finL e os fun os' => k (.d x :: os')
  | some o' :: e, _ :: os, k => finL e os fun os' => k (o' :: os')
  | _, _, _ => False
def keepOk (kp : List Nat) : Nat → List O → Prop
  | _, [] => True
  | i, .d _ :: os => keepOk kp (i + 1) os
  | i, _ :: os => i ∈ kp ∧ keepOk kp (i + 1) os
theorem slots_start {K : Fg} {G H : Hp} (m : Nat) : ∀ {vs : List V} {os : List O} {fp : List Addr}, Slots K G H (vs.map some) (os.map some) fp → Slots K G H (vs.map some ++ List.replicate m none) (os.map some ++ List.replicate m none) fp
  | [], [], _, .nil => by
    induction m with
    | zero => exact .nil
    | succ m ih => exact .non ih
  | v :: vs, o :: os, _, .one r t => .one r (slots_start m t)
theorem finL_ok {K : Fg} {G G' H H' : Hp} (s : Same G G') {kp : List Nat} {σ0 : L2.St} : ∀ {vs : List V} {os : List O} {fpA : List Addr} {i : Nat} {σ' : L2.St} {e : Env} {fp : List Addr} {k : List O → Prop}, Slots K G H (vs.map some) (os.map some) fpA → Slots K G' H' σ' e fp →
    keepOk kp i os → (∀ j, i + j ∈ kp → σ'[j]? = σ0[i + j]?) → (∀ j v, vs[j]? = some v → σ0[i + j]? = some (some v)) → finL e os k →
    ∃ os' fpX, k os' ∧ fpX.Sublist fp ∧ Slots K G' H' (vs.map some) (os'.map some) fpX := by
  intro vs os
  induction os generalizing vs with
  | nil =>
    intro fpA i σ' e fp k sa sl _ _ _ h
    cases vs with
    | nil => exact ⟨[], [], by cases e <;> exact h, List.nil_sublist _, .nil⟩
    | cons v vs => cases sa
  | cons o os ih =>
    intro fpA i σ' e fp k sa sl hk h1 h2 h
    cases vs with
    | nil => cases sa
    | cons v vs =>
      cases sa with
      | one r t =>
        have h2' : ∀ j u, vs[j]? = some u → σ0[i + 1 + j]? = some (some u) := fun j u e => by
          rw [Nat.add_assoc, Nat.add_comm 1 j]
          exact h2 (j + 1) u (by simpa using e)
        cases sl with
        | nil => cases o <;> exact h.elim
        | non sl =>
          rename_i x σ' e
          have h1' : ∀ j, i + 1 + j ∈ kp → σ'[j]? = σ0[i + 1 + j]? := fun j m => by
            rw [Nat.add_assoc, Nat.add_comm 1 j] at m ⊢
            simpa using h1 (j + 1) m
          cases o with
          | d y =>
            obtain ⟨os', fpX, g1, g2, g3⟩ := ih t sl hk h1' h2' h
            exact ⟨_, [] ++ fpX, g1, g2, .one ⟨rp_mono s y r.1, rfl⟩ g3⟩
          | own y => exact h.elim
          | dct y => exact h.elim
          | res y => exact h.elim
        | one r' sl =>
          rename_i u o' σ' e fp1 fp2
          have h1' : ∀ j, i + 1 + j ∈ kp → σ'[j]? = σ0[i + 1 + j]? := fun j m => by
            rw [Nat.add_assoc, Nat.add_comm 1 j] at m ⊢
            simpa using h1 (j + 1) m
          have eu : i ∈ kp → u = v := fun m => by
            have := h1 0 m
            have q := h2 0 v rfl
            rw [Nat.add_zero] at this q
            rw [q] at this
            simpa using this
          cases o with
          | d y =>
            obtain ⟨os', fpX, g1, g2, g3⟩ := ih t sl hk h1' h2' h
            exact ⟨_, [] ++ fpX, g1, g2.trans (List.sublist_append_right _ _), .one ⟨rp_mono s y r.1, rfl⟩ g3⟩
          | own y =>
            obtain ⟨os', fpX, g1, g2, g3⟩ := ih t sl hk.2 h1' h2' h
            have e := eu hk.1
            subst e
            exact ⟨_, fp1 ++ fpX, g1, (List.Sublist.refl _).append g2, .one r' g3⟩
          | dct y =>
            obtain ⟨os', fpX, g1, g2, g3⟩ := ih t sl hk.2 h1' h2' h
            have e := eu hk.1
            subst e
            exact ⟨_, fp1 ++ fpX, g1, (List.Sublist.refl _).append g2, .one r' g3⟩
          | res y =>
            obtain ⟨os', fpX, g1, g2, g3⟩ := ih t sl hk.2 h1' h2' h
            have e := eu hk.1
            subst e
            exact ⟨_, fp1 ++ fpX, g1, (List.Sublist.refl _).append g2, .one r' g3⟩
theorem slots_lenA {K : Fg} {G H : Hp} {vs : List V} {os : List O} {fp : List Addr} (h : Slots K G H (vs.map some) (os.map some) fp) : vs.length = os.length := by
  have := h.len
  rwa [List.length_map, List.length_map] at this
/-- THE RULE for a def: a derivation of its body, and what the reading says -/
theorem fn_ok {P : Program} {w : World} {K : Fg} {mg : Str → Option Value} {base : Heap} {x qual : Str} {st : Stmt} {f : Addr} {fd : FuncData} {N ps : List Str} {k : Nat} {sp : FSp} (F : Fun K x qual st f fd) (S : FnScope N ps (defScope st)) (kp : List Nat) {r : RS}
    (body : ∀ (cdv : Value) (A : Around) (outer : List PySem.Env) (s : Shared) (H : Hp) (E : XK), Room k (A.deeper (envOfC qual (defScope st) s.heap.objs.size f cdv)) → QSs (cxOf CX0 P w K mg base N qual (defScope st) f cdv A outer s H E).nox kp (defBody st) r)
    (len : ∀ os Q, sp os Q → os.length = ps.length) (keep : ∀ os Q, sp os Q → keepOk kp 0 os)
    (sem : ∀ os Q, sp os Q → r { nx := fun e => finL e os (Q (.d .none)), rt := fun o e => finL e os (Q o), bk := fun _ => False, ct := fun _ => False } (env0 N os)) :
    FnOk P w K mg base CX0 (k + 1) f fd ps (SpOf K sp) := by
  refine F.ok S (fun vs H Q E h => ?_) (fun cdv A outer s H vs Q E hr h => ?_)
  · obtain ⟨os, G, F0, ⟨fp, sl, w0⟩, h⟩ := h
    rw [slots_lenA sl]
    exact len os _ h
  · obtain ⟨os, G, F0, ⟨fp, sl, w0⟩, h⟩ := h
    have q := body cdv A outer s H E hr
    refine ⟨liftS K kp r, q.run, env0 N os, G, F0, ⟨fp, ?_, w0⟩, ?_⟩
    · unfold env0 L2.start
      rw [← slots_lenA sl]
      exact slots_start _ sl
    · have start_at : ∀ j v, vs[j]? = some v → (L2.start N vs)[0 + j]? = some (some v) := fun j v e => by
        rw [Nat.zero_add]
        unfold L2.start
        have hj : j < (vs.map some).length := by
          rw [List.length_map]
          exact (List.getElem?_eq_some_iff.mp e).1
        rw [List.getElem?_append_left hj, List.getElem?_map, e]
        rfl
      refine q.mono _ _ _ ⟨fun e z σ' G' H' sG hK r' => ?_, fun o e z v σ' G' H' sG hK r' => ?_, fun e (z : False) => z.elim, fun e (z : False) => z.elim⟩ (sem os _ h)
      · obtain ⟨fp2, sl2, w2⟩ := r'
        obtain ⟨os', fpX, g1, g2, g3⟩ := finL_ok sG (i := 0) (σ0 := L2.start N vs) sl sl2 (keep os _ h) (fun j m => by rw [Nat.zero_add] at m ⊢; exact hK j m) start_at z
        exact g1 .non G' H' sG ⟨fpX, [], g3, ⟨.non, rfl⟩, w2.sub g2⟩
      · obtain ⟨fp2, fpv, sl2, ro, w2⟩ := r'
        obtain ⟨os', fpX, g1, g2, g3⟩ := finL_ok sG (i := 0) (σ0 := L2.start N vs) sl sl2 (keep os _ h) (fun j m => by rw [Nat.zero_add] at m ⊢; exact hK j m) start_at z
        exact g1 v G' H' sG ⟨fpX, fpv, g3, ro, w2.sub ((List.Sublist.refl _).append g2)⟩
end Pf
set_option Elab.async false
set_option linter.all false
set_option maxRecDepth 100000
set_option maxHeartbeats 4000000
/-! Pf: enumerate and zip over lists and tuples alike, made of the library's walks of anything. -/
namespace Pf
open PySem PySem.Spec PyProof.Rows L2

def SqB (K : Fg) (t : Bool) (H : Hp) (a : Addr) (xs : List V) : Prop := match t with
  | false => SqL K H a xs
  | true => SqT K H a xs
def IsQ (t : Bool) (h : Heap) (a : Addr) (items : Array Value) : Prop := match t with
  | false => h.IsList a items
  | true => h.IsTuple a items
def ItQ (t : Bool) (h : Heap) (it a : Addr) (i : Nat) : Prop := match t with
  | false => h.IsListIter it a i
  | true => h.IsTupleIter it a i
def itO (t : Bool) (a : Addr) : Obj := match t with
  | false => { cls := .type "list_iterator", data := .fields #[.ref a, .int 0 0] }
  | true => { cls := .type "tuple_iterator", data := .fields #[.ref a, .int 0 0] }
theorem begQ (t : Bool) (a : Addr) (items : Array Value) : Begins (.ref a) (itO t a) fun h => IsQ t h a items := by
  cases t
  · exact begins_list a items
  · exact begins_tuple a items
theorem drawQ {prog : Program} {w : World} {A : Around} (hh : A.handled = none) (t : Bool) (it a : Addr) (hne : a ≠ it) (items : Array Value) :
    Draws prog w A it [it, a] items.size (fun i v => items[i]? = some v) (fun i h => ItQ t h it a i ∧ IsQ t h a items) := by
  cases t
  · exact Draws.list hh it a hne items
  · exact Draws.tuple hh it a hne items
theorem itQ_new {t : Bool} {h : Heap} {it a : Addr} (e : h.get? it = some (itO t a)) : ItQ t h it a 0 := by
  cases t
  · exact ⟨_, e, rfl, rfl⟩
  · exact ⟨_, e, rfl, rfl⟩
theorem itQ_obj {t : Bool} {h : Heap} {it a : Addr} {i : Nat} (e : ItQ t h it a i) : ∃ o, h.get? it = some o ∧ ∀ v, o.data ≠ .cell v := by
  cases t
  · obtain ⟨o, h1, h2, h3⟩ := e
    exact ⟨o, h1, fun v z => by rw [h3] at z; cases z⟩
  · obtain ⟨o, h1, h2, h3⟩ := e
    exact ⟨o, h1, fun v z => by rw [h3] at z; cases z⟩
theorem itQ_at {t : Bool} {h h' : Heap} {it a : Addr} {i : Nat} (e : ItQ t h it a i) (k : ∀ o, h.get? it = some o → h'.get? it = some o) : ItQ t h' it a i := by
  cases t
  · exact Heap.IsListIter.at e k
  · exact Heap.IsTupleIter.at e k
section
variable {X : Cx} {pins : List (Addr × Obj)} {σ : L2.St} {H : Hp} {s : Shared} {a : Addr} {xs ys : List V} {t : Bool}
theorem inv_sq (I : Inv X pins σ H s) (h : SqB X.K t H a xs) : ∃ its : List Value, Vals xs its ∧ IsQ t s.heap a its.toArray ∧ a < s.heap.objs.size := by
  cases t
  · obtain ⟨its, r, p, _⟩ := I.list h
    exact ⟨its, r, p.isList, p.lt⟩
  · obtain ⟨its, r, p, _⟩ := I.tuple h
    exact ⟨its, r, p, by obtain ⟨o, e, _⟩ := p; exact Heap.lt_size e⟩
theorem inv_inj (I : Inv X pins σ H s) (h : SqB X.K t H a xs) (h' : SqB X.K t H a ys) : xs = ys := by
  cases t
  · exact I.list_inj h h'
  · exact I.tuple_inj h h'
end

/-! ### zip -/
def ItzQ (K : Fg) (t1 t2 : Bool) (a b : Addr) : It :=
  ⟨fun i H => ∃ (xs ys : List V) (x y : V), SqB K t1 H a xs ∧ SqB K t2 H b ys ∧ xs[i]? = some x ∧ ys[i]? = some y,
    fun i H v H' => ∃ T x y, v = .ref T ∧ H T = none ∧ H' = upd H T (.tup [x, y]) ∧ (∀ xs, SqB K t1 H a xs → xs[i]? = some x) ∧ ∀ ys, SqB K t2 H b ys → ys[i]? = some y,
    fun i H => ∃ xs ys : List V, SqB K t1 H a xs ∧ SqB K t2 H b ys ∧ i = min xs.length ys.length⟩
theorem get_vals {xs : List V} {us : List Value} {i : Nat} {u : Value} (r : Vals xs us) (e : us[i]? = some u) : ∃ x, xs[i]? = some x ∧ RelV x u := by
  have hl := r.length
  have hi : i < us.length := (List.getElem?_eq_some_iff.mp e).1
  have hx : xs[i]? = some (xs[i]'(by omega)) := List.getElem?_eq_getElem (by omega)
  obtain ⟨u', e', r'⟩ := r.get hx
  rw [e] at e'
  cases e'
  exact ⟨_, hx, r'⟩
theorem turnZ {P : Program} {w : World} {K : Fg} {elts : List Expr} {kk : Nat} {tpos : Pos} {t1 t2 : Bool} {a b z TI TO i1 i2 : Addr} (S : ZipSep2 z TI TO i1 i2 [i1, a] [i2, b]) (na : a ≠ i1) (nb : b ≠ i2) :
    Turn P w K (.Tuple elts kk tpos) (ItzQ K t1 t2 a b) [z, TI, TO, i1, i2] z (fun i h => IsZip h z TI TO .none ∧ IsTupOf2 h TI (.ref i1) (.ref i2) ∧ (∃ x y, IsTupOf2 h TO x y) ∧ ItQ t1 h i1 a i ∧ ItQ t2 h i2 b i) where
  mem := List.mem_cons_self
  obj := fun i h ⟨hz, h1, ⟨x, y, h2⟩, h3, h4⟩ c hc => by
    simp only [List.mem_cons, List.not_mem_nil, or_false] at hc
    rcases hc with e | e | e | e | e <;> subst e
    · exact ⟨_, hz, fun v q => nomatch q⟩
    · exact ⟨_, h1, fun v q => nomatch q⟩
    · exact ⟨_, h2, fun v q => nomatch q⟩
    · exact itQ_obj h3
    · exact itQ_obj h4
  keep := fun i h h' ⟨hz, h1, ⟨x, y, h2⟩, h3, h4⟩ k => ⟨k z (by simp) _ hz, k TI (by simp) _ h1, ⟨x, y, k TO (by simp) _ h2⟩, itQ_at h3 fun o q => k i1 (by simp) o q, itQ_at h4 fun o q => k i2 (by simp) o q⟩
  item := by
    intro X eP ew eK hc i pins s σ H E I hf ⟨hz, h1, h2, h3, h4⟩ ⟨xs, ys, x, y, qx, qy, ex, ey⟩
    subst eP ew eK
    obtain ⟨us, rx, px, lx⟩ := inv_sq I qx
    obtain ⟨ws, ry, py, ly⟩ := inv_sq I qy
    have hh : X.A.in1.handled = none := I.ok.hd hc
    have W := GoesN.zip2 (elts := elts) (x1 := kk) (pos := tpos) (A := X.A) S (drawQ (prog := X.prog) (w := X.w) hh t1 i1 a na us.toArray) (drawQ (prog := X.prog) (w := X.w) hh t2 i2 b nb ws.toArray)
    have hi : i < min us.toArray.size ws.toArray.size := by
      have g1 := (List.getElem?_eq_some_iff.mp ex).1
      have g2 := (List.getElem?_eq_some_iff.mp ey).1
      have g3 := rx.length
      have g4 := ry.length
      rw [List.size_toArray, List.size_toArray]
      omega
    refine W.goes i s (fun u s2 => ∃ v H', Inv X pins σ H' s2 ∧ RelV v u ∧ (ItzQ X.K t1 t2 a b).yld i H v H' ∧ _ ∧ ∀ c ∈ [z, TI, TO, i1, i2], H' c = none) E hi ⟨hz, h1, h2, ⟨h3, px⟩, ⟨h4, py⟩⟩ fun u h' tk ⟨T, u1, u2, eu, nT, g1, g2, hT⟩ st hk htk => ?_
    subst eu
    obtain ⟨v1, e1, r1⟩ := get_vals rx (by simpa using g1)
    obtain ⟨v2, e2, r2⟩ := get_vals ry (by simpa using g2)
    have new : ObjOk X.prog X.w (upd H T (.tup [v1, v2])) h' T (.tup [v1, v2]) := ⟨by show 2 ≤ sizeLine; decide, [u1, u2], .cons r1 (.cons r2 .nil), hT⟩
    have hfw : ∀ c ∈ [z, TO, i1, i2], FpOk X pins H c := fun c m => hf c (by
      simp only [List.mem_cons, List.not_mem_nil, or_false] at m ⊢
      rcases m with e | e | e | e <;> simp [e])
    refine ⟨.ref T, _, I.turnedNew hk hfw nT new, rfl, ⟨T, v1, v2, rfl, I.hok.fresh nT, rfl, fun l hl => by rw [inv_inj I hl qx]; exact e1, fun l hl => by rw [inv_inj I hl qy]; exact e2⟩, ⟨st.1, st.2.1, st.2.2.1, st.2.2.2.1.1, st.2.2.2.2.1⟩, fun c m => ?_⟩
    have lc : c < s.heap.objs.size := by
      simp only [List.mem_cons, List.not_mem_nil, or_false] at m
      obtain ⟨x0, y0, h2⟩ := h2
      obtain ⟨o3, q3, _⟩ := itQ_obj h3
      obtain ⟨o4, q4, _⟩ := itQ_obj h4
      rcases m with e | e | e | e | e <;> subst e
      · exact Heap.lt_size hz
      · exact Heap.lt_size h1
      · exact Heap.lt_size h2
      · exact Heap.lt_size q3
      · exact Heap.lt_size q4
    rw [upd_ne (Nat.ne_of_lt (Nat.lt_of_lt_of_le lc nT))]
    exact (hf c m).1
  done := by
    intro X eP ew eK hc i pins s σ H E I hf ⟨hz, h1, h2, h3, h4⟩ ⟨xs, ys, qx, qy, ei⟩
    subst eP ew eK
    obtain ⟨us, rx, px, lx⟩ := inv_sq I qx
    obtain ⟨ws, ry, py, ly⟩ := inv_sq I qy
    have hh : X.A.in1.handled = none := I.ok.hd hc
    have W := GoesN.zip2 (elts := elts) (x1 := kk) (pos := tpos) (A := X.A) S (drawQ (prog := X.prog) (w := X.w) hh t1 i1 a na us.toArray) (drawQ (prog := X.prog) (w := X.w) hh t2 i2 b nb ws.toArray)
    have en : i = min us.toArray.size ws.toArray.size := by rw [ei, rx.length, ry.length, List.size_toArray, List.size_toArray]
    refine W.stops s (fun s1 => Inv X pins σ H s1) E (by rw [← en]; exact ⟨hz, h1, h2, ⟨h3, px⟩, ⟨h4, py⟩⟩) fun h' tk hk htk => ?_
    refine I.turnedL hk fun c m => hf c ?_
    simp only [List.mem_cons, List.not_mem_nil, or_false] at m ⊢
    rcases m with e | e | e | e <;> simp [e]
  self := fun A i s Q E st h => wpAny_pyIter_zip st.1 h
def iZipQ (K : Fg) (ta : TA) : TI := fun σ H R => ta σ H fun vs H1 => ∃ t1 t2 a b xs ys, vs = [.ref a, .ref b] ∧ SqB K t1 H1 a xs ∧ SqB K t2 H1 b ys ∧ R (ItzQ K t1 t2 a b) H1
theorem pi_zipQ {X : Cx} {e e2 : Expr} {ta : TA} {p pos tpos : Pos} {elts : List Expr} {kk : Nat} (hg : Gl X "zip") (hm : X.mg "zip" = none) (ha : PA X [e, e2] ta)
    (hs : starEach [e, e2] X.env = (false, eval e X.env) :: starEach [e2] X.env := by rfl) (hpl : (backTo pos (starEach [e2] X.env)).any (·.1) = false := by rfl) :
    PI X (.Tuple elts kk tpos) (.Call (.Name "zip" p) [e, e2] [] pos) (iZipQ X.K ta) := by
  refine ⟨fun pins s σ H R I h => ?_⟩
  refine Call_ (ld_blt I hg hm PyProof.Rows.boot_zip (PyProof.Rows.callWith_type1 (thn (ha.run pos pins s σ H _ I h) fun us s1 ⟨vs, H1, I1, r1, t1, t2, a, b, xs, ys, ev, qx, qy, q⟩ => ?_) hs hpl))
  subst ev
  obtain ⟨u1, u2, rfl, ru1, ru2⟩ := vals2 r1
  cases ru1
  cases ru2
  obtain ⟨is1, rx, px, lx⟩ := inv_sq I1 qx
  obtain ⟨is2, ry, py, ly⟩ := inv_sq I1 qy
  refine zip_begins2 (begQ t1 a is1.toArray) (begQ t2 b is2.toArray) px py fun h' hz hTI hTO g1 g2 hsz hk => wpAny_pyIter_zip hz ?_
  have I2 : Inv X pins σ H1 { s1 with heap := h' } := I1.kept (t' := s1.toks) hk
  refine ⟨_, [s1.heap.objs.size + 4, s1.heap.objs.size + 2, s1.heap.objs.size + 3, s1.heap.objs.size, s1.heap.objs.size + 1], _, _, H1, rfl, I2, turnZ (zip_sep2 (N := s1.heap.objs.size) (fp1 := [a]) (fp2 := [b]) (fun c m => by rw [List.mem_singleton.mp m]; exact lx) fun c m => by rw [List.mem_singleton.mp m]; exact ly) (Nat.ne_of_lt lx) (Nat.ne_of_lt (Nat.lt_succ_of_lt ly)),
    ⟨hz, hTI, ⟨_, _, hTO⟩, itQ_new g1, itQ_new g2⟩, fun c m => ?_, q⟩
  have lc : s1.heap.objs.size ≤ c := by
    simp only [List.mem_cons, List.not_mem_nil, or_false] at m
    rcases m with e | e | e | e | e <;> rw [e] <;> first | exact Nat.le_add_right _ _ | exact Nat.le_refl _
  exact I1.fpOk lc (I1.hok.fresh lc)
end Pf

namespace Pf
open PySem PySem.Spec PyProof.Rows L2
/-! ### enumerate -/
def IteQ (K : Fg) (t : Bool) (a : Addr) : It :=
  ⟨fun i H => ∃ (xs : List V) (x : V), SqB K t H a xs ∧ xs[i]? = some x,
    fun i H v H' => ∃ T x, v = .ref T ∧ H T = none ∧ H' = upd H T (.tup [.int (i : Nat), x]) ∧ ∀ xs, SqB K t H a xs → xs[i]? = some x,
    fun i H => ∃ xs : List V, SqB K t H a xs ∧ i = xs.length⟩
theorem turnE {P : Program} {w : World} {K : Fg} {elts : List Expr} {kk : Nat} {tpos : Pos} {t : Bool} {a e it : Addr} (n1 : e ≠ it) (n2 : e ≠ a) (na : a ≠ it) :
    Turn P w K (.Tuple elts kk tpos) (IteQ K t a) [e, it] e (fun i h => (∃ old, IsEnum h e it (i : Nat) old) ∧ ItQ t h it a i) where
  mem := List.mem_cons_self
  obj := fun i h ⟨⟨old, hz⟩, h3⟩ c hc => by
    simp only [List.mem_cons, List.not_mem_nil, or_false] at hc
    rcases hc with q | q <;> subst q
    · exact ⟨_, hz, fun v q => nomatch q⟩
    · exact itQ_obj h3
  keep := fun i h h' ⟨⟨old, hz⟩, h3⟩ k => ⟨⟨old, k e (by simp) _ hz⟩, itQ_at h3 fun o q => k it (by simp) o q⟩
  item := by
    intro X eP ew eK hc i pins s σ H E I hf ⟨⟨old, hz⟩, h3⟩ ⟨xs, x, qx, ex⟩
    subst eP ew eK
    obtain ⟨us, rx, px, lx⟩ := inv_sq I qx
    have hh : X.A.in1.handled = none := I.ok.hd hc
    have W := GoesN.enumFrom (elts := elts) (x1 := kk) (pos := tpos) (A := X.A) 0 (drawQ (prog := X.prog) (w := X.w) hh t it a na us.toArray) e n1 (by simp [n1, n2]) (by simp)
    have hi : i < us.toArray.size := by
      have g1 := (List.getElem?_eq_some_iff.mp ex).1
      have g3 := rx.length
      rw [List.size_toArray]
      omega
    refine W.goes i s (fun u s2 => ∃ v H', Inv X pins σ H' s2 ∧ RelV v u ∧ (IteQ X.K t a).yld i H v H' ∧ _ ∧ ∀ c ∈ [e, it], H' c = none) E hi ⟨⟨old, by rw [Int.zero_add]; exact hz⟩, h3, px⟩ fun u h' tk ⟨T, tt, u1, eu, nT, g1, hT⟩ st hk htk => ?_
    subst eu
    obtain ⟨v1, e1, r1⟩ := get_vals rx (by simpa using g1)
    rw [Int.zero_add] at hT
    have new : ObjOk X.prog X.w (upd H T (.tup [.int (i : Nat), v1])) h' T (.tup [.int (i : Nat), v1]) := ⟨by show 2 ≤ sizeLine; decide, [.int (i : Nat) tt, u1], .cons ⟨tt, rfl⟩ (.cons r1 .nil), hT⟩
    obtain ⟨⟨old', g5⟩, g6, g7⟩ := st
    refine ⟨.ref T, _, I.turnedNew hk hf nT new, rfl, ⟨T, v1, rfl, I.hok.fresh nT, rfl, fun l hl => by rw [inv_inj I hl qx]; exact e1⟩, ⟨⟨old', by rw [Int.zero_add] at g5; exact g5⟩, g6⟩, fun c m => ?_⟩
    have lc : c < s.heap.objs.size := by
      simp only [List.mem_cons, List.not_mem_nil, or_false] at m
      obtain ⟨o3, q3, _⟩ := itQ_obj h3
      rcases m with q | q <;> subst q
      · exact Heap.lt_size hz
      · exact Heap.lt_size q3
    rw [upd_ne (Nat.ne_of_lt (Nat.lt_of_lt_of_le lc nT))]
    exact (hf c m).1
  done := by
    intro X eP ew eK hc i pins s σ H E I hf ⟨⟨old, hz⟩, h3⟩ ⟨xs, qx, ei⟩
    subst eP ew eK
    obtain ⟨us, rx, px, lx⟩ := inv_sq I qx
    have hh : X.A.in1.handled = none := I.ok.hd hc
    have W := GoesN.enumFrom (elts := elts) (x1 := kk) (pos := tpos) (A := X.A) 0 (drawQ (prog := X.prog) (w := X.w) hh t it a na us.toArray) e n1 (by simp [n1, n2]) (by simp)
    have en : i = us.toArray.size := by rw [ei, rx.length, List.size_toArray]
    exact W.stops s (fun s1 => Inv X pins σ H s1) E (by rw [← en]; exact ⟨⟨old, by rw [Int.zero_add]; exact hz⟩, h3, px⟩) fun h' tk hk htk => I.turnedL hk hf
  self := fun A i s Q E st h => let ⟨⟨_, he⟩, _⟩ := st; wpAny_pyIter_enum he h
theorem meets_enumB {v : Value} {o : Obj} {H : Heap → Prop} (B : Begins v o H) :
    Meets (Builtin.«enumerate.__new__» ⟨[.type "enumerate", v], []⟩) (fun _ R s => H s.heap ∧
      R (.ok (.ret (.ref (s.heap.push o).objs.size))) { s with heap := (s.heap.push o).push { cls := .type "enumerate", data := .fields #[.none, .bool false, .ref s.heap.objs.size, rawInt 0, .none, .none] } }) :=
  .of_wp fun prog w A R s h => by
    obtain ⟨hp, g, d, tk, os⟩ := s
    obtain ⟨h1, h⟩ := h
    have hsub := sub_enumerate
    have begun : ∀ {A' : Around} {E : Value → Shared → Prop} {Q : Value → Shared → Prop}, Q (.ref hp.objs.size) ⟨(hp.push o), g, d, tk, os⟩ → wpAny (model prog w) A' (pyIter v) Q E ⟨hp, g, d, tk, os⟩ :=
      fun q => B.iter prog w _ _ ⟨hp, g, d, tk, os⟩ _ h1 q
    wp_walk
    refine wpAny_stack_any fun st => wpAny_pure ?_
    split
    · rename_i c _ _ _ _ _
      cases (c == Value.type "enumerate")
      · wp_walk using begun
        exact ⟨_, rfl, h⟩
      · wp_walk using begun
        exact ⟨_, rfl, h⟩
    · wp_walk using begun
      exact ⟨_, rfl, h⟩
theorem enum1_begins {prog : Program} {w : World} {A : Around} {E : Value → Shared → Prop} {s : Shared} {v : Value} {o : Obj} {H : Heap → Prop} {Q : Value → Shared → Prop} (B : Begins v o H) (h1 : H s.heap)
    (h : ∀ h', IsEnum h' (s.heap.objs.size + 1) s.heap.objs.size 0 .none → h'.get? s.heap.objs.size = some o → (∀ b o, s.heap.get? b = some o → h'.get? b = some o) → Q (.ref (s.heap.objs.size + 1)) { s with heap := h' }) :
    wpAny (model prog w) A (call (.type "enumerate") [v]) Q E s := by
  refine callType_new F.called_enumerate (by decide) (F.typeCall_enumerate_1 _) (F.newCall_enumerate_1 _) (fun obj => F.args_object_init_2 obj _) F.entry_enumerate_new (meets_enumB B) ⟨h1, ?_⟩
  have hz : (s.heap.push o).objs.size = s.heap.objs.size + 1 := Heap.size_push ..
  show _ ∧ _
  rw [hz]
  have he := Heap.get?_push_size (s.heap.push o) (o := { cls := .type "enumerate", data := .fields #[.none, .bool false, .ref s.heap.objs.size, rawInt 0, .none, .none] }) rfl
  rw [hz] at he
  exact ⟨⟨_, he, rfl⟩, h _ he (Heap.get?_push_of_some _ (Heap.get?_push_size _ B.free)) fun b o x => Heap.get?_push_of_some _ (Heap.get?_push_of_some _ x)⟩
def iEnumQ (K : Fg) (ta : TA) : TI := fun σ H R => ta σ H fun vs H1 => ∃ t a xs, vs = [.ref a] ∧ SqB K t H1 a xs ∧ R (IteQ K t a) H1
theorem pi_enumQ {X : Cx} {e : Expr} {ta : TA} {p pos tpos : Pos} {elts : List Expr} {kk : Nat} (hg : Gl X "enumerate") (hm : X.mg "enumerate" = none) (ha : PA X [e] ta) (hs : starEach [e] X.env = [(false, eval e X.env)] := by rfl) :
    PI X (.Tuple elts kk tpos) (.Call (.Name "enumerate" p) [e] [] pos) (iEnumQ X.K ta) := by
  refine ⟨fun pins s σ H R I h => ?_⟩
  refine Call_ (ld_blt I hg hm boot_enumerate (PyProof.Rows.callWith_type1 (thn (ha.run pos pins s σ H _ I h) fun us s1 ⟨vs, H1, I1, r1, t, a, xs, ev, qx, q⟩ => ?_) hs rfl))
  subst ev
  obtain ⟨u1, rfl, ru1⟩ := vals1 r1
  cases ru1
  obtain ⟨is1, rx, px, lx⟩ := inv_sq I1 qx
  refine enum1_begins (begQ t a is1.toArray) px fun h' he g1 hk => wpAny_pyIter_enum he ?_
  have I2 : Inv X pins σ H1 { s1 with heap := h' } := I1.kept (t' := s1.toks) hk
  refine ⟨_, [s1.heap.objs.size + 1, s1.heap.objs.size], _, _, H1, rfl, I2, turnE (Nat.succ_ne_self _) (Nat.ne_of_gt (Nat.lt_succ_of_lt lx)) (Nat.ne_of_lt lx), ⟨⟨_, he⟩, itQ_new g1⟩, fun c m => ?_, q⟩
  have lc : s1.heap.objs.size ≤ c := by
    simp only [List.mem_cons, List.not_mem_nil, or_false] at m
    rcases m with e | e <;> rw [e] <;> first | exact Nat.le_add_right _ _ | exact Nat.le_refl _
  exact I1.fpOk lc (I1.hok.fresh lc)
end Pf
set_option Elab.async false
set_option linter.all false
set_option maxRecDepth 100000
set_option maxHeartbeats 4000000
/-! Pf: statements, targets, walks, loops, comprehensions, methods of lists. -/
namespace Pf
open PySem PySem.Spec PyProof.Rows L2

theorem keepS_refl {kp : List Nat} {σ : L2.St} : KeepS kp σ σ := fun _ _ => rfl
theorem KeepS.trans {kp : List Nat} {σ1 σ2 σ3 : L2.St} (a : KeepS kp σ1 σ2) (b : KeepS kp σ2 σ3) : KeepS kp σ1 σ3 := fun j m => (b j m).trans (a j m)
theorem liftEnd_le {K : Fg} {kp : List Nat} {G G' F : Hp} {σ σ' : L2.St} {E : L2.Ends} (s : Same G G') (k : KeepS kp σ σ') : (liftEnd K kp G F σ E).le (liftEnd K kp G' F σ' E) :=
  ⟨fun e h σ2 G2 H2 s2 k2 r => h σ2 G2 H2 (s.trans s2) (k.trans k2) r, fun o e h v σ2 G2 H2 s2 k2 r => h v σ2 G2 H2 (s.trans s2) (k.trans k2) r,
    fun e h σ2 G2 H2 s2 k2 r => h σ2 G2 H2 (s.trans s2) (k.trans k2) r, fun e h σ2 G2 H2 s2 k2 r => h σ2 G2 H2 (s.trans s2) (k.trans k2) r⟩

/-! ### blocks -/
def rNext : RS := fun E env => E.nx env
def rSeq (r r' : RS) : RS := fun E env => r { E with nx := fun e => r' E e } env
section
variable {X : Cx} {kp : List Nat} {st : Stmt} {rest : List Stmt} {pos : Pos}
theorem qss_nil : QSs X kp [] rNext := ⟨fun A B env l h => l.1 _ h, pss_imp pss_nil fun E σ H ⟨env, G, F, rep, h⟩ => h σ G H idS keepS_refl rep⟩
theorem qss_one {r : RS} (h : QS X kp st r) : QSs X kp [st] r := ⟨h.mono, pss_one h.run⟩
theorem qss_cons {r r' : RS} (h : QS X kp st r) (h' : QSs X kp rest r') : QSs X kp (st :: rest) (rSeq r r') := by
  refine ⟨fun A B env l q => h.mono { A with nx := fun e => r' A e } { B with nx := fun e => r' B e } env ⟨fun e z => h'.mono _ _ _ l z, l.2.1, l.2.2.1, l.2.2.2⟩ q, pss_imp (pss_cons h.run h'.run) ?_⟩
  intro E σ H ⟨env, G, F, rep, q⟩
  exact ⟨env, G, F, rep, h.mono { liftEnd X.K kp G F σ E with nx := fun e => r' (liftEnd X.K kp G F σ E) e } (liftEnd X.K kp G F σ { E with nx := liftS X.K kp r' E }) env ⟨fun e z σ' G' H' s k r => ⟨e, G', F, r, h'.mono _ _ _ (liftEnd_le s k) z⟩, fun o e z => z, fun e z => z, fun e z => z⟩ q⟩
def rPass : RS := fun E env => E.nx env
def rBreak : RS := fun E env => E.bk env
def rCont : RS := fun E env => E.ct env
def rNever : RS := fun _ _ => False
theorem qs_pass : QS X kp (.Pass pos) rPass := ⟨fun A B env l h => l.1 _ h, ps_imp ps_pass fun E σ H ⟨env, G, F, rep, h⟩ => h σ G H idS keepS_refl rep⟩
theorem qs_break : QS X kp (.Break pos) rBreak := ⟨fun A B env l h => l.2.2.1 _ h, ps_imp ps_break fun E σ H ⟨env, G, F, rep, h⟩ => h σ G H idS keepS_refl rep⟩
theorem qs_cont : QS X kp (.Continue pos) rCont := ⟨fun A B env l h => l.2.2.2 _ h, ps_imp ps_continue fun E σ H ⟨env, G, F, rep, h⟩ => h σ G H idS keepS_refl rep⟩
theorem qs_never : QS X kp st rNever := ⟨fun A B env l h => h, ps_imp ps_never fun E σ H ⟨env, G, F, rep, h⟩ => h.elim⟩
def rDrop (ra : RE) : RS := fun E env => ra env fun _ e => E.nx e
def rRet (ra : RE) : RS := fun E env => ra env fun o e => E.rt o e
def rRetN : RS := fun E env => E.rt (.d .none) env
theorem qs_expr {a : Expr} {ra : RE} (h : QE X a ra) (hs : swapsWith a none pos.line X.env = pure false := by rfl) : QS X kp (.Expr a pos) (rDrop ra) := by
  refine ⟨fun A B env l q => h.mono _ _ _ (fun o e z => l.1 _ z) q, ps_imp (ps_expr h.run hs) ?_⟩
  intro E σ H ⟨env, G, F, rep, q⟩
  exact liftO_of h.mono rep q fun o e v G' H' z s r => z σ G' H' s keepS_refl r.rep
theorem qs_ret {a : Expr} {ra : RE} (h : QE X a ra) : QS X kp (.Return (some a) pos) (rRet ra) := by
  refine ⟨fun A B env l q => h.mono _ _ _ (fun o e z => l.2.1 _ _ z) q, ps_imp (ps_ret h.run) ?_⟩
  intro E σ H ⟨env, G, F, rep, q⟩
  exact liftO_of h.mono rep q fun o e v G' H' z s r => z v σ G' H' s keepS_refl r
theorem qs_retN : QS X kp (.Return none pos) rRetN := ⟨fun A B env l h => l.2.1 _ _ h, ps_imp ps_retN fun E σ H ⟨env, G, F, rep, h⟩ => h .non σ G H idS keepS_refl (.of rep .non)⟩
def rIfS (t : RT) (r r' : RS) : RS := fun E env => t env fun b e => if b = true then r E e else r' E e
theorem qs_if {c : Expr} {a b : List Stmt} {t : RT} {r r' : RS} (hc : QT X c t) (ha : QSs X kp a r) (hb : QSs X kp b r') : QS X kp (.If c a b pos) (rIfS t r r') := by
  refine ⟨fun A B env l q => hc.mono _ _ _ (fun o e z => ite_mono (ha.mono _ _ _ l) (hb.mono _ _ _ l) z) q, ps_imp (ps_if hc.run ha.run hb.run) ?_⟩
  intro E σ H ⟨env, G, F, rep, q⟩
  refine liftT_of hc.mono rep q fun b e G' H' z s r => ite_mono (fun z => ?_) (fun z => ?_) z
  · exact ⟨e, G', F, r, ha.mono _ _ _ (liftEnd_le s keepS_refl) z⟩
  · exact ⟨e, G', F, r, hb.mono _ _ _ (liftEnd_le s keepS_refl) z⟩
end

/-! ### stores -/
theorem get_or {α : Type} (l : List α) (i : Nat) : (∃ x, l[i]? = some x) ∨ ∀ x, l.set i x = l := by
  cases e : l[i]? with
  | some x => exact .inl ⟨x, rfl⟩
  | none => exact .inr fun x => List.set_eq_of_length_le (List.getElem?_eq_none_iff.mp e)
theorem RepV.put {K : Fg} {G F H : Hp} {σ : L2.St} {env : Env} {v : V} {o : O} (r : RepV K G F H σ env v o) (i : Nat) : Rep K G F H (σ.set i (some v)) (env.set i (some o)) := by
  obtain ⟨fp, fpv, s, ro, w⟩ := r
  rcases get_or env i with ⟨oo, e⟩ | e
  · obtain ⟨fa, f1, fb, x, e1, e2, e3, g⟩ := s.split e
    subst e1
    refine ⟨_, g G H (some v) (some o) fpv idS (fun _ _ => rfl) ⟨v, rfl, ro⟩, ?_⟩
    have p : (fpv ++ (fa ++ (f1 ++ fb))).Perm (f1 ++ (fa ++ (fpv ++ fb))) := by
      refine (List.Perm.append_left fpv (perm_mid fa f1 fb)).trans ?_
      refine (perm_mid fpv f1 (fa ++ fb)).trans (List.Perm.append_left f1 ?_)
      exact perm_mid fpv fa fb
    exact (w.perm p).sub (List.sublist_append_right _ _)
  · have e' : σ.set i (some v) = σ := List.set_eq_of_length_le (by
      rw [s.len]
      have h := e none
      by_cases hl : env.length ≤ i
      · exact hl
      · have := congrArg (fun l => l[i]?) (e (some (.d .none)))
        have h2 := congrArg (fun l => l[i]?) h
        simp only [List.getElem?_set_self (Nat.lt_of_not_le hl)] at this h2
        rw [← this] at h2
        cases h2)
    rw [e', e]
    exact ⟨fp, s, w.sub (List.sublist_append_right _ _)⟩
theorem keepS_set {kp : List Nat} {σ : L2.St} {i : Nat} {x : Option V} (h : i ∉ kp) : KeepS kp σ (σ.set i x) := fun j m => by
  rw [List.getElem?_set_ne (fun e => h (by rw [e]; exact m))]
def rSet (i : Nat) (ra : RE) : RS := fun E env => ra env fun o e => E.nx (e.set i (some o))
section
variable {X : Cx} {kp : List Nat} {pos : Pos}
theorem qs_set (i : Nat) {x : Str} {a : Expr} {ra : RE} {pos' : Pos} (hN : X.N.Nodup) (h : QE X a ra) (hk : i ∉ kp := by decide) (hi : X.N[i]? = some x := by rfl) (hx : Loc X.env.scope x := by first | exact .inl rfl | exact .inr rfl) (hs : swapsWith a (some (.Name x pos')) pos.line X.env = pure false := by rfl)
    (hf : X.fn x = true ∨ X.env.scope.names.lookup x = some .local := by first | exact .inl rfl | exact .inr rfl | assumption) : QS X kp (.Assign [.Name x pos'] a pos) (rSet i ra) := by
  refine ⟨fun A B env l q => h.mono _ _ _ (fun o e z => l.1 _ z) q, ps_imp (ps_set hN hi hx h.run hs hf) ?_⟩
  intro E σ H ⟨env, G, F, rep, q⟩
  exact liftO_of h.mono rep q fun o e v G' H' z s r => z _ G' H' s (keepS_set hk) (r.put i)
end

/-! ### targets -/
abbrev RG := D → Env → (Env → Prop) → Prop
abbrev RGs := List D → Env → (Env → Prop) → Prop
def MonoG {α : Type} (t : α → Env → (Env → Prop) → Prop) : Prop := ∀ x env (k k' : Env → Prop), (∀ e, k e → k' e) → t x env k → t x env k'
def liftG (K : Fg) (sl : List Nat) (t : RG) : TG := fun v σ H Q => ∃ env G F x, Rep K G F H σ env ∧ Rp K G v x ∧ t x env fun env' => ∀ σ', (∀ j, j ∉ sl → σ'[j]? = σ[j]?) → σ'.length = σ.length → Rep K G F H σ' env' → Q σ' H
def liftGs (K : Fg) (sl : List Nat) (t : RGs) : TGs := fun vs σ H Q => ∃ env G F xs, Rep K G F H σ env ∧ RpAll K G vs xs ∧ t xs env fun env' => ∀ σ', (∀ j, j ∉ sl → σ'[j]? = σ[j]?) → σ'.length = σ.length → Rep K G F H σ' env' → Q σ' H
structure QG (X : Cx) (tg : Expr) (sl : List Nat) (t : RG) : Prop where
  mono : MonoG t
  run : PG X tg (liftG X.K sl t)
structure QGs (X : Cx) (tgs : List Expr) (sl : List Nat) (t : RGs) : Prop where
  mono : MonoG t
  run : PGs X tgs (liftGs X.K sl t)
def rGn (i : Nat) : RG := fun x env k => k (env.set i (some (.d x)))
def rGnil : RGs := fun xs env k => match xs with
  | [] => k env
  | _ => False
def rGcons (t : RG) (ts : RGs) : RGs := fun xs env k => match xs with
  | x :: xs => t x env fun e => ts xs e k
  | _ => False
def rGt (n : Nat) (ts : RGs) : RG := fun x env k => match x with
  | .tuple xs => xs.length = n ∧ ts xs env k
  | _ => False
section
variable {X : Cx} {pos : Pos}
theorem pg_imp {e : Expr} {t t' : TG} (h : PG X e t) (f : ∀ v σ H Q, t' v σ H Q → t v σ H Q) : PG X e t' := ⟨fun pins s σ H v u Q I r q => h.run pins s σ H v u Q I r (f v σ H Q q)⟩
theorem pgs_imp {e : List Expr} {t t' : TGs} (h : PGs X e t) (f : ∀ v σ H Q, t' v σ H Q → t v σ H Q) : PGs X e t' := ⟨fun pins s σ H v u Q I r q => h.run pins s σ H v u Q I r (f v σ H Q q)⟩
theorem qg_name (i : Nat) {x : Str} (hN : X.N.Nodup) (hi : X.N[i]? = some x := by rfl) (hx : Loc X.env.scope x := by first | exact .inl rfl | exact .inr rfl) (hf : X.fn x = true ∨ X.env.scope.names.lookup x = some .local := by first | exact .inl rfl | exact .inr rfl | assumption) : QG X (.Name x pos) [i] (rGn i) := by
  refine ⟨fun x env k k' f h => f _ h, pg_imp (pg_name hN hi hx hf) ?_⟩
  intro v σ H Q ⟨env, G, F, x, rep, d, h⟩
  refine h _ (fun j m => ?_) (List.length_set ..) ((RepV.of rep d).put i)
  rw [List.getElem?_set_ne (fun e => m (by simp [e]))]
theorem qgs_nil : QGs X [] [] rGnil := by
  refine ⟨fun xs env k k' f h => ?_, pgs_imp pgs_nil ?_⟩
  · cases xs with
    | nil => exact f _ h
    | cons _ _ => exact h
  · intro vs σ H Q ⟨env, G, F, xs, rep, d, h⟩
    cases d with
    | nil => exact ⟨rfl, h σ (fun _ _ => rfl) rfl rep⟩
    | cons _ _ => exact h.elim
theorem qgs_cons {e : Expr} {es : List Expr} {sl sls : List Nat} {t : RG} {ts : RGs} (h : QG X e sl t) (h' : QGs X es sls ts) (hs : (assignEach (e :: es) X.env).map (·.2) = assign e X.env :: (assignEach es X.env).map (·.2) := by rfl) : QGs X (e :: es) (sl ++ sls) (rGcons t ts) := by
  refine ⟨fun xs env k k' f q => ?_, pgs_imp (pgs_cons h.run h'.run hs) ?_⟩
  · cases xs with
    | nil => exact q
    | cons x xs => exact h.mono _ _ _ _ (fun e z => h'.mono _ _ _ _ f z) q
  · intro vs σ H Q ⟨env, G, F, xs, rep, d, q⟩
    cases d with
    | nil => exact q.elim
    | cons d ds =>
      refine ⟨_, _, rfl, env, G, F, _, rep, d, h.mono _ _ _ _ (fun e z σ1 k1 l1 rep1 => ⟨e, G, F, _, rep1, ds, h'.mono _ _ _ _ (fun e2 z2 σ2 k2 l2 rep2 => z2 σ2 (fun j m => ?_) (l2.trans l1) rep2) z⟩) q⟩
      rw [List.mem_append, not_or] at m
      rw [k2 j m.2, k1 j m.1]
theorem qg_tup {es : List Expr} {k : Nat} {sl : List Nat} {ts : RGs} (n : Nat) (hc : X.calm = true) (h : QGs X es sl ts) (hn : (assignEach es X.env).length = n := by rfl) (hst : (assignEach es X.env).findIdx? (·.1) = none := by rfl) : QG X (.Tuple es k pos) sl (rGt n ts) := by
  refine ⟨fun x env k k' f q => ?_, pg_imp (pg_tup hc h.run hn hst) ?_⟩
  · unfold rGt at *
    split at q
    · exact ⟨q.1, h.mono _ _ _ _ f q.2⟩
    · exact q
  · intro v σ H Q ⟨env, G, F, x, rep, d, q⟩
    unfold rGt at q
    split at q
    · cases d with
      | tup g ds => exact ⟨_, _, rfl, (tq_mono rep.gh g).sq, by rw [rps_len ds]; exact q.1, env, G, F, _, rep, ds, q.2⟩
    · exact q.elim
end
/-- a, b = e, where e gives a tuple -/
def rAsgT (ra : RV) (t : RG) : RS := fun E env => ra env fun x e => t x e E.nx
theorem qs_asgT {X : Cx} {kp : List Nat} {pos : Pos} {tg a : Expr} {ra : RV} {sl : List Nat} {t : RG} (h : QV X a ra) (hg : QG X tg sl t) (hk : ∀ j ∈ kp, j ∉ sl := by decide) (hs : swapsWithSole [tg] a pos.line X.env = pure false := by rfl) (hw : swappedStores [tg] a X.env = pure none := by rfl)
    (h1 : (assignEach [tg] X.env).map (·.2) = [assign tg X.env] := by rfl) : QS X kp (.Assign [tg] a pos) (rAsgT ra t) := by
  refine ⟨fun A B env l q => h.mono _ _ _ (fun o e z => hg.mono _ _ _ _ l.1 z) q, ps_imp (ps_asg h.run hg.run hs hw h1) ?_⟩
  intro E σ H ⟨env, G, F, rep, q⟩
  refine liftV_of h.mono rep q fun x e v G' H' z s r d => ⟨e, G', F, x, r, d, hg.mono _ _ _ _ (fun e z σ' k l r' => z σ' G' H' s (fun j m => k j (hk j m)) r') z⟩
end Pf
set_option Elab.async false
set_option linter.all false
set_option maxRecDepth 100000
set_option maxHeartbeats 4000000
/-! Pf: what is walked; for, while, comprehensions; a list's items and methods. -/
namespace Pf
open PySem PySem.Spec PyProof.Rows L2

/-! ### lists that change -/
section
variable {K : Fg} {G F H : Hp} {σ : L2.St} {env : Env}
theorem Rep.mut {xs : List D} {k : Nat} (r : Rep K G F H σ env) (h : env[k]? = some (some (.own xs))) : ∃ p vs, σ[k]? = some (some (.ref p)) ∧ H p = some (.lst vs) ∧ RpAll K G vs xs ∧
    ∀ vs' xs', RpAll K G vs' xs' → Rep K G F (upd H p (.lst vs')) σ (env.set k (some (.own xs'))) := by
  obtain ⟨fp, s, w⟩ := r
  obtain ⟨fa, f1, fb, x, e1, e2, ⟨v, rfl, p, vs, rfl, rfl, hp, hd⟩, g⟩ := s.split h
  subst e1
  refine ⟨p, vs, e2, hp, hd, fun vs' xs' hd' => ?_⟩
  have mp : p ∈ fa ++ ([p] ++ fb) := by simp
  have hG : G p = none := w.pg p mp
  have hF : F p = none := w.pf p mp
  have nd := List.nodup_append.mp w.nd
  have nd2 := nd.2.1
  rw [List.singleton_append, List.nodup_cons] at nd2
  have hn : ∀ a ∈ fa ++ fb, a ≠ p := fun a m e => by
    subst e
    rcases List.mem_append.mp m with m | m
    · exact nd.2.2 a m a (by simp) rfl
    · exact nd2.1 m
  have s2 := g G (upd H p (.lst vs')) (some (.ref p)) (some (.own xs')) [p] idS (fun a m => upd_ne (hn a m)) ⟨_, rfl, p, vs', rfl, rfl, upd_same, hd'⟩
  rw [set_self e2] at s2
  refine ⟨_, s2, fun a o e => ?_, fun a o e => ?_, w.gf, w.nd, w.pg, w.pf⟩
  · rw [upd_ne (fun z => by rw [z, hG] at e; cases e)]
    exact w.gh a o e
  · rw [upd_ne (fun z => by rw [z, hF] at e; cases e)]
    exact w.fh a o e
end
/-- the list in slot k -/
def ownAt (e : Env) (k : Nat) (c : List D → Prop) : Prop := match e[k]? with
  | some (some (.own xs)) => c xs
  | _ => False
theorem ownAt.mono {e : Env} {k : Nat} {c c' : List D → Prop} (f : ∀ xs, c xs → c' xs) (h : ownAt e k c) : ownAt e k c' := by
  unfold ownAt at *
  split at h
  · exact f _ h
  · exact h.elim
theorem ownAt.get {e : Env} {k : Nat} {c : List D → Prop} (h : ownAt e k c) : ∃ xs, e[k]? = some (some (.own xs)) ∧ c xs := by
  unfold ownAt at h
  split at h
  · rename_i xs q
    exact ⟨xs, q, h⟩
  · exact h.elim
def setAt (e : Env) (k : Nat) (j y : D) (c : Env → Prop) : Prop := match j with
  | .int i => ownAt e k fun xs => ∃ n, ixN xs.length i = some n ∧ c (e.set k (some (.own (xs.set n y))))
  | _ => False
theorem setAt.mono {e : Env} {k : Nat} {j y : D} {c c' : Env → Prop} (f : ∀ e, c e → c' e) (h : setAt e k j y c) : setAt e k j y c' := by
  unfold setAt at *
  split at h
  · exact h.mono fun xs ⟨n, a, b⟩ => ⟨n, a, f _ b⟩
  · exact h.elim
/-- x[j] = e -/
def rSetIx (k : Nat) (re ri : RV) : RS := fun E env => re env fun y e1 => ownAt e1 k fun _ => ri e1 fun j e2 => setAt e2 k j y E.nx
section
variable {X : Cx} {kp : List Nat} {pos : Pos}
theorem qs_setIx (k : Nat) {x : Str} {a i : Expr} {re ri : RV} {px tp : Pos} (he : QV X a re) (hi : QV X i ri) (hN : X.N[k]? = some x := by rfl) (hv : Vis X.env.scope x := by first | exact Or.inl rfl | exact Or.inr (Or.inl rfl) | exact Or.inr (Or.inr rfl)) (hd : (x == ("__debug__" : Str)) = false := by decide)
    (hcd : (x == ("__classdict__" : Str)) = false := by decide)
    (ha : ∀ v, assign (.Subscript (.Name x px) i tp) X.env v = (do
      let ov ← holding [v] (eval (.Name x px) X.env)
      let iv ← holding [v, ov] (eval i X.env)
      standAt tp
      holding [v, ov, iv] (setItem ov iv v)
      release [v, ov, iv] []) := by intro _; rfl)
    (hs : swapsWithSole [.Subscript (.Name x px) i tp] a pos.line X.env = pure false := by rfl) (hw : swappedStores [.Subscript (.Name x px) i tp] a X.env = pure none := by rfl)
    (h1 : (assignEach [.Subscript (.Name x px) i tp] X.env).map (·.2) = [assign (.Subscript (.Name x px) i tp) X.env] := by rfl) : QS X kp (.Assign [.Subscript (.Name x px) i tp] a pos) (rSetIx k re ri) := by
  refine ⟨fun A B env l q => he.mono _ _ _ (fun y e z => z.mono fun xs z => hi.mono _ _ _ (fun j e z => z.mono l.1) z) q, ps_imp (ps_asg he.run (pg_sub (pe_var hN hv hd hcd) hi.run set_list ha) hs hw h1) ?_⟩
  intro E σ H ⟨env, G, F, rep, q⟩
  refine liftV_of he.mono rep q fun y e1 v G1 H1 h1 s1 rep1 d1 => ?_
  obtain ⟨xs, g1, h1⟩ := h1.get
  obtain ⟨p, vs, g2, g3, g4, _⟩ := rep1.mut g1
  refine ⟨.ref p, g2, ?_⟩
  refine liftV_of hi.mono rep1 h1 fun j e2 u G2 H2 h2 s2 rep2 d2 => ?_
  unfold setAt at h2
  split at h2
  · cases d2
    obtain ⟨ys, g5, n, g6, h3⟩ := h2.get
    obtain ⟨p', ws, g7, g8, g9, g10⟩ := rep2.mut g5
    rw [g2] at g7
    cases g7
    refine ⟨p, ws, _, n, rfl, rfl, g8, by rw [rps_len g9]; exact g6, ?_⟩
    exact h3 σ G2 _ (s1.trans s2) keepS_refl (g10 _ _ (rps_set (rp_mono s2 y d1) n g9))
  · exact h2.elim
/-- x[i], x[j] = e, f -/
def rSwap (k : Nat) (ra ri1 ri2 : RV) : RS := fun E env => ra env fun t e1 => match t with
  | .tuple [a, b] => ownAt e1 k fun _ => ri1 e1 fun j1 e2 => setAt e2 k j1 a fun e3 => ownAt e3 k fun _ => ri2 e3 fun j2 e4 => setAt e4 k j2 b E.nx
  | _ => False
theorem qs_swap (k : Nat) {x : Str} {a i1 i2 : Expr} {ra ri1 ri2 : RV} {px px2 tp tp2 tt : Pos} {kk : Nat} (hc : X.calm = true) (he : QV X a ra) (hi1 : QV X i1 ri1) (hi2 : QV X i2 ri2) (hN : X.N[k]? = some x := by rfl) (hv : Vis X.env.scope x := by first | exact Or.inl rfl | exact Or.inr (Or.inl rfl) | exact Or.inr (Or.inr rfl)) (hd : (x == ("__debug__" : Str)) = false := by decide)
    (hcd : (x == ("__classdict__" : Str)) = false := by decide)
    (ha : ∀ v, assign (.Subscript (.Name x px) i1 tp) X.env v = (do
      let ov ← holding [v] (eval (.Name x px) X.env)
      let iv ← holding [v, ov] (eval i1 X.env)
      standAt tp
      holding [v, ov, iv] (setItem ov iv v)
      release [v, ov, iv] []) := by intro _; rfl)
    (ha2 : ∀ v, assign (.Subscript (.Name x px2) i2 tp2) X.env v = (do
      let ov ← holding [v] (eval (.Name x px2) X.env)
      let iv ← holding [v, ov] (eval i2 X.env)
      standAt tp2
      holding [v, ov, iv] (setItem ov iv v)
      release [v, ov, iv] []) := by intro _; rfl)
    (hs1 : (assignEach [.Subscript (.Name x px) i1 tp, .Subscript (.Name x px2) i2 tp2] X.env).map (·.2) = assign (.Subscript (.Name x px) i1 tp) X.env :: (assignEach [.Subscript (.Name x px2) i2 tp2] X.env).map (·.2) := by rfl)
    (hs2 : (assignEach [.Subscript (.Name x px2) i2 tp2] X.env).map (·.2) = assign (.Subscript (.Name x px2) i2 tp2) X.env :: (assignEach [] X.env).map (·.2) := by rfl)
    (hn : (assignEach [.Subscript (.Name x px) i1 tp, .Subscript (.Name x px2) i2 tp2] X.env).length = 2 := by rfl) (hst : (assignEach [.Subscript (.Name x px) i1 tp, .Subscript (.Name x px2) i2 tp2] X.env).findIdx? (·.1) = none := by rfl)
    (hs : swapsWithSole [.Tuple [.Subscript (.Name x px) i1 tp, .Subscript (.Name x px2) i2 tp2] kk tt] a pos.line X.env = pure false := by rfl) (hw : swappedStores [.Tuple [.Subscript (.Name x px) i1 tp, .Subscript (.Name x px2) i2 tp2] kk tt] a X.env = pure none := by rfl)
    (h1 : (assignEach [.Tuple [.Subscript (.Name x px) i1 tp, .Subscript (.Name x px2) i2 tp2] kk tt] X.env).map (·.2) = [assign (.Tuple [.Subscript (.Name x px) i1 tp, .Subscript (.Name x px2) i2 tp2] kk tt) X.env] := by rfl) :
    QS X kp (.Assign [.Tuple [.Subscript (.Name x px) i1 tp, .Subscript (.Name x px2) i2 tp2] kk tt] a pos) (rSwap k ra ri1 ri2) := by
  refine ⟨fun A B env l q => he.mono _ _ _ (fun y e z => ?_) q, ps_imp (ps_asg he.run (pg_tup hc (pgs_cons (pg_sub (pe_var hN hv hd hcd) hi1.run set_list ha) (pgs_cons (pg_sub (pe_var hN hv hd hcd) hi2.run set_list ha2) pgs_nil hs2) hs1) hn hst) hs hw h1) ?_⟩
  · split at z
    · exact z.mono fun xs z => hi1.mono _ _ _ (fun j e z => z.mono fun e z => z.mono fun xs z => hi2.mono _ _ _ (fun j e z => z.mono l.1) z) z
    · exact z
  intro E σ H ⟨env, G, F, rep, q⟩
  refine liftV_of he.mono rep q fun y e1 v G1 H1 h1 s1 rep1 d1 => ?_
  split at h1
  · rename_i a b
    cases d1 with
    | tup hT ds =>
      rename_i pT us
      cases ds with
      | cons da ds =>
        rename_i va us
        cases ds with
        | cons db ds =>
          rename_i vb us
          cases ds
          refine ⟨pT, _, rfl, (tq_mono rep1.gh hT).sq, rfl, va, _, rfl, ?_⟩
          obtain ⟨xs, g1, h1⟩ := h1.get
          obtain ⟨p, vs, g2, g3, g4, _⟩ := rep1.mut g1
          refine ⟨.ref p, g2, ?_⟩
          refine liftV_of hi1.mono rep1 h1 fun j e2 u G2 H2 h2 s2 rep2 d2 => ?_
          unfold setAt at h2
          split at h2
          · cases d2
            obtain ⟨ys, g5, n, g6, h3⟩ := h2.get
            obtain ⟨p', ws, g7, g8, g9, g10⟩ := rep2.mut g5
            rw [g2] at g7
            cases g7
            refine ⟨p, ws, _, n, rfl, rfl, g8, by rw [rps_len g9]; exact g6, vb, [], rfl, ?_⟩
            have rep3 := g10 _ _ (rps_set (rp_mono s2 a da) n g9)
            obtain ⟨zs, g11, h4⟩ := h3.get
            refine ⟨.ref p, g2, ?_⟩
            refine liftV_of hi2.mono rep3 h4 fun j2 e4 u2 G4 H4 h5 s4 rep4 d4 => ?_
            unfold setAt at h5
            split at h5
            · cases d4
              obtain ⟨ys2, g12, n2, g13, h6⟩ := h5.get
              obtain ⟨p2, ws2, g14, g15, g16, g17⟩ := rep4.mut g12
              rw [g2] at g14
              cases g14
              refine ⟨p, ws2, _, n2, rfl, rfl, g15, by rw [rps_len g16]; exact g13, rfl, ?_⟩
              exact h6 σ G4 _ ((s1.trans s2).trans s4) keepS_refl (g17 _ _ (rps_set (rp_mono (s2.trans s4) b db) n2 g16))
            · exact h5.elim
          · exact h2.elim
  · exact h1.elim

/-! ### methods of a list -/
theorem ty_list {K : Fg} {H : Hp} {p : Addr} {vs : List V} (h : H p = some (.lst vs)) : tyV K "list" (.ref p) H := .inl ⟨rfl, vs, .inl (.inl h)⟩
/-- x.append(e) -/
def rApp (k : Nat) (re : RV) : RE := fun env Q => ownAt env k fun _ => re env fun y e => ownAt e k fun xs => xs.length < sizeLine ∧ Q (.d .none) (e.set k (some (.own (xs ++ [y]))))
theorem qe_append (k : Nat) {x : Str} {a : Expr} {re : RV} {px apos cpos : Pos} (he : QV X a re) (hN : X.N[k]? = some x := by rfl) (hv : Vis X.env.scope x := by first | exact Or.inl rfl | exact Or.inr (Or.inl rfl) | exact Or.inr (Or.inr rfl)) (hd : (x == ("__debug__" : Str)) = false := by decide)
    (hcd : (x == ("__classdict__" : Str)) = false := by decide) (hbase : attributeBase (.Name x px) "append" X.env (eval (.Name x px) X.env) = eval (.Name x px) X.env := by rfl)
    (hfew : ((backTo cpos (starEach [a] X.env)).all (fun x => !x.1) && (backToKw cpos (keywordEach [] X.env)).all (fun x => x.1.isSome) && decide (([a] : List Expr).length + ([] : List Keyword).length + (if ([] : List Keyword).isEmpty then 0 else 1) < 30)) = true := by rfl)
    (hline : (apos.endLine == cpos.line) = true := by rfl) (hs : starEach [a] X.env = (false, eval a X.env) :: starEach [] X.env := by rfl) (hplain : (backTo cpos (starEach [] X.env)).any (·.1) = false := by rfl) :
    QE X (.Call (.Attribute (.Name x px) "append" apos) [a] [] cpos) (rApp k re) := by
  refine ⟨fun env Q Q' f q => q.mono fun xs z => he.mono _ _ _ (fun y e z => z.mono fun xs z => ⟨z.1, f _ _ z.2⟩) z, pe_imp (pe_bm PySem.F.plainAttrs_list PySem.F.slot_list_append PySem.F.type_list_append mt_append (pe_var hN hv hd hcd) (pa_cons he.run pa_nil hs) hbase hfew hline hs hplain) ?_⟩
  intro σ H Q ⟨env, G, F, rep, q⟩
  obtain ⟨xs, g1, h1⟩ := q.get
  obtain ⟨p, vs, g2, g3, g4, _⟩ := rep.mut g1
  refine ⟨.ref p, g2, ty_list g3, ?_⟩
  refine liftV_of he.mono rep h1 fun y e v G1 H1 h1 s1 rep1 d1 => ?_
  obtain ⟨ys, g5, h2, h3⟩ := h1.get
  obtain ⟨p', ws, g6, g7, g8, g9⟩ := rep1.mut g5
  rw [g2] at g6
  cases g6
  exact ⟨p, ws, v, rfl, rfl, g7, by rw [rps_len g8]; exact h2, h3 .non G1 _ s1 (.of (g9 _ _ (rps_append g8 (.cons d1 .nil))) .non)⟩
/-- x.insert(i, e) -/
def rIns (k : Nat) (ri re : RV) : RE := fun env Q => ownAt env k fun _ => ri env fun j e1 => re e1 fun y e => match j with
  | .int i => ownAt e k fun xs => xs.length < sizeLine ∧ 0 ≤ i ∧ i < 2 ^ 63 ∧ Q (.d .none) (e.set k (some (.own (xs.take i.toNat ++ [y] ++ xs.drop i.toNat))))
  | _ => False
theorem qe_insert (k : Nat) {x : Str} {a i : Expr} {re ri : RV} {px apos cpos : Pos} (hi : QV X i ri) (he : QV X a re) (hN : X.N[k]? = some x := by rfl) (hv : Vis X.env.scope x := by first | exact Or.inl rfl | exact Or.inr (Or.inl rfl) | exact Or.inr (Or.inr rfl)) (hd : (x == ("__debug__" : Str)) = false := by decide)
    (hcd : (x == ("__classdict__" : Str)) = false := by decide) (hbase : attributeBase (.Name x px) "insert" X.env (eval (.Name x px) X.env) = eval (.Name x px) X.env := by rfl)
    (hfew : ((backTo cpos (starEach [i, a] X.env)).all (fun x => !x.1) && (backToKw cpos (keywordEach [] X.env)).all (fun x => x.1.isSome) && decide (([i, a] : List Expr).length + ([] : List Keyword).length + (if ([] : List Keyword).isEmpty then 0 else 1) < 30)) = true := by rfl)
    (hline : (apos.endLine == cpos.line) = true := by rfl) (hs : starEach [i, a] X.env = (false, eval i X.env) :: starEach [a] X.env := by rfl) (hs2 : starEach [a] X.env = (false, eval a X.env) :: starEach [] X.env := by rfl) (hplain : (backTo cpos (starEach [a] X.env)).any (·.1) = false := by rfl) :
    QE X (.Call (.Attribute (.Name x px) "insert" apos) [i, a] [] cpos) (rIns k ri re) := by
  refine ⟨fun env Q Q' f q => q.mono fun xs z => hi.mono _ _ _ (fun j e z => he.mono _ _ _ (fun y e z => ?_) z) z, pe_imp (pe_bm PySem.F.plainAttrs_list PySem.F.slot_list_insert PySem.F.type_list_insert mt_insert (pe_var hN hv hd hcd) (pa_cons hi.run (pa_cons he.run pa_nil hs2) hs) hbase hfew hline hs hplain) ?_⟩
  · split at z
    · exact z.mono fun xs z => ⟨z.1, z.2.1, z.2.2.1, f _ _ z.2.2.2⟩
    · exact z
  intro σ H Q ⟨env, G, F, rep, q⟩
  obtain ⟨xs, g1, h1⟩ := q.get
  obtain ⟨p, vs, g2, g3, g4, _⟩ := rep.mut g1
  refine ⟨.ref p, g2, ty_list g3, ?_⟩
  refine liftV_of hi.mono rep h1 fun j e0 u G0 H0 h0 s0 rep0 d0 => ?_
  refine liftV_of he.mono rep0 h0 fun y e v G1 H1 h1 s1 rep1 d1 => ?_
  split at h1
  · cases d0
    obtain ⟨ys, g5, h2, h3, h4, h5⟩ := h1.get
    obtain ⟨p', ws, g6, g7, g8, g9⟩ := rep1.mut g5
    rw [g2] at g6
    cases g6
    exact ⟨p, ws, _, v, rfl, rfl, g7, by rw [rps_len g8]; exact h2, h3, h4, h5 .non G1 _ (s0.trans s1) (.of (g9 _ _ (rps_append (rps_append (rps_take _ g8) (.cons d1 .nil)) (rps_drop _ g8))) .non)⟩
  · exact h1.elim
/-- x.pop() -/
def rPop0 (k : Nat) : RE := fun env Q => ownAt env k fun xs => ∃ y, xs[xs.length - 1]? = some y ∧ Q (.d y) (env.set k (some (.own xs.dropLast)))
theorem rps_dropLast {K : Fg} {G : Hp} {xs : List D} {vs : List V} (h : RpAll K G vs xs) : RpAll K G vs.dropLast xs.dropLast := by
  rw [List.dropLast_eq_take, List.dropLast_eq_take, rps_len h]
  exact rps_take _ h
theorem qe_pop (k : Nat) {x : Str} {px apos cpos : Pos} (hN : X.N[k]? = some x := by rfl) (hv : Vis X.env.scope x := by first | exact Or.inl rfl | exact Or.inr (Or.inl rfl) | exact Or.inr (Or.inr rfl)) (hd : (x == ("__debug__" : Str)) = false := by decide)
    (hcd : (x == ("__classdict__" : Str)) = false := by decide) (hbase : attributeBase (.Name x px) "pop" X.env (eval (.Name x px) X.env) = eval (.Name x px) X.env := by rfl) (hline : (apos.endLine == cpos.line) = true := by rfl) :
    QE X (.Call (.Attribute (.Name x px) "pop" apos) [] [] cpos) (rPop0 k) := by
  refine ⟨fun env Q Q' f q => q.mono fun xs ⟨y, a, b⟩ => ⟨y, a, f _ _ b⟩, pe_imp (pe_bm0 PySem.F.plainAttrs_list PySem.F.slot_list_pop PySem.F.type_list_pop mt_pop (pe_var hN hv hd hcd) hbase hline) ?_⟩
  intro σ H Q ⟨env, G, F, rep, q⟩
  obtain ⟨xs, g1, y, h1, h2⟩ := q.get
  obtain ⟨p, vs, g2, g3, g4, g5⟩ := rep.mut g1
  obtain ⟨v, g6, g7⟩ := rps_get g4 h1
  exact ⟨.ref p, g2, ty_list g3, p, vs, v, rfl, rfl, g3, by rw [rps_len g4]; exact g6, h2 v G _ idS (.of (g5 _ _ (rps_dropLast g4)) g7)⟩
/-- x.pop(i) -/
def rPopI (k : Nat) (ri : RV) : RE := fun env Q => ownAt env k fun _ => ri env fun j e => match j with
  | .int i => ownAt e k fun xs => ∃ n y, -(2 ^ 63) ≤ i ∧ i < 2 ^ 63 ∧ seqIndex? i xs.length = some n ∧ xs[n]? = some y ∧ Q (.d y) (e.set k (some (.own (xs.eraseIdx n))))
  | _ => False
theorem qe_popI (k : Nat) {x : Str} {i : Expr} {ri : RV} {px apos cpos : Pos} (hi : QV X i ri) (hN : X.N[k]? = some x := by rfl) (hv : Vis X.env.scope x := by first | exact Or.inl rfl | exact Or.inr (Or.inl rfl) | exact Or.inr (Or.inr rfl)) (hd : (x == ("__debug__" : Str)) = false := by decide)
    (hcd : (x == ("__classdict__" : Str)) = false := by decide) (hbase : attributeBase (.Name x px) "pop" X.env (eval (.Name x px) X.env) = eval (.Name x px) X.env := by rfl)
    (hfew : ((backTo cpos (starEach [i] X.env)).all (fun x => !x.1) && (backToKw cpos (keywordEach [] X.env)).all (fun x => x.1.isSome) && decide (([i] : List Expr).length + ([] : List Keyword).length + (if ([] : List Keyword).isEmpty then 0 else 1) < 30)) = true := by rfl)
    (hline : (apos.endLine == cpos.line) = true := by rfl) (hs : starEach [i] X.env = (false, eval i X.env) :: starEach [] X.env := by rfl) (hplain : (backTo cpos (starEach [] X.env)).any (·.1) = false := by rfl) :
    QE X (.Call (.Attribute (.Name x px) "pop" apos) [i] [] cpos) (rPopI k ri) := by
  refine ⟨fun env Q Q' f q => q.mono fun xs z => hi.mono _ _ _ (fun j e z => ?_) z, pe_imp (pe_bm PySem.F.plainAttrs_list PySem.F.slot_list_pop PySem.F.type_list_pop mt_popAt (pe_var hN hv hd hcd) (pa_cons hi.run pa_nil hs) hbase hfew hline hs hplain) ?_⟩
  · split at z
    · exact z.mono fun xs ⟨n, y, a, b, c, d, z⟩ => ⟨n, y, a, b, c, d, f _ _ z⟩
    · exact z
  intro σ H Q ⟨env, G, F, rep, q⟩
  obtain ⟨xs, g1, h1⟩ := q.get
  obtain ⟨p, vs, g2, g3, g4, _⟩ := rep.mut g1
  refine ⟨.ref p, g2, ty_list g3, ?_⟩
  refine liftV_of hi.mono rep h1 fun j e v G1 H1 h1 s1 rep1 d1 => ?_
  split at h1
  · cases d1
    obtain ⟨ys, g5, n, y, h2, h3, h4, h5, h6⟩ := h1.get
    obtain ⟨p', ws, g6, g7, g8, g9⟩ := rep1.mut g5
    rw [g2] at g6
    cases g6
    obtain ⟨w, g10, g11⟩ := rps_get g8 h5
    exact ⟨p, ws, _, n, w, rfl, rfl, g7, h2, h3, by rw [rps_len g8]; exact h4, g10, h6 w G1 _ s1 (.of (g9 _ _ (rps_erase n g8)) g11)⟩
  · exact h1.elim
end
end Pf
set_option Elab.async false
set_option linter.all false
set_option maxRecDepth 100000
set_option maxHeartbeats 4000000
/-! Pf: what is walked; for, while, comprehensions. -/
namespace Pf
open PySem PySem.Spec PyProof.Rows L2

/-- an iterator that gives the items xs while what stands for ever (G0) stands -/
structure Walks (K : Fg) (J : It) (xs : List D) (G0 : Hp) : Prop where
  go : ∀ i H, i < xs.length → Same G0 H → J.go i H
  stop : ∀ H, Same G0 H → J.stop xs.length H
  yld : ∀ i H v H', i < xs.length → Same G0 H → J.yld i H v H' → ∃ x, xs[i]? = some x ∧ H' = H ∧ Rp K G0 v x
/-- .. that gives tuples of the items xss -/
structure WalksT (K : Fg) (J : It) (xss : List (List D)) (G0 : Hp) : Prop where
  go : ∀ i H, i < xss.length → Same G0 H → J.go i H
  stop : ∀ H, Same G0 H → J.stop xss.length H
  yld : ∀ i H v H', i < xss.length → Same G0 H → J.yld i H v H' → ∃ xs T vs, xss[i]? = some xs ∧ v = .ref T ∧ H T = none ∧ H' = upd H T (.tup vs) ∧ RpAll K G0 vs xs
abbrev RF := Env → (List D → Env → Prop) → Prop
abbrev RFT := Env → (List (List D) → Env → Prop) → Prop
/-- what a for walks: its items; its tuples of items -/
structure QF (X : Cx) (tg iter : Expr) (r : RF) : Prop where
  mono : MonoK r
  run : ∃ wi, PI X tg iter wi ∧ ∀ σ H R env G F Q0, Rep X.K G F H σ env → r env Q0 → (∀ J xs env' G' H', Q0 xs env' → Same G G' → Rep X.K G' F H' σ env' → Walks X.K J xs G' → R J H') → wi σ H R
structure QFT (X : Cx) (tg iter : Expr) (r : RFT) : Prop where
  mono : MonoK r
  run : ∃ wi, PI X tg iter wi ∧ ∀ σ H R env G F Q0, Rep X.K G F H σ env → r env Q0 → (∀ J xs env' G' H', Q0 xs env' → Same G G' → Rep X.K G' F H' σ env' → WalksT X.K J xs G' → R J H') → wi σ H R

/-! ### lists and tuples, ranges -/
def ItsQ (K : Fg) (t : Bool) (a : Addr) : It := match t with
  | false => Itl K a
  | true => Itt K a
def iSeq (K : Fg) (tl : TE) : TI := fun σ H R => tl σ H fun x H1 => ∃ t a xs, x = .ref a ∧ SqB K t H1 a xs ∧ R (ItsQ K t a) H1
theorem pi_seq {X : Cx} {tg l : Expr} {tl : TE} (hl : PE X l tl) : PI X tg l (iSeq X.K tl) := by
  refine ⟨fun pins s σ H R I h => thn (hl.run pins s σ H _ I h) fun v s1 ⟨x, H1, I1, r1, t, a, xs, ex, hq, q⟩ => ?_⟩
  subst ex
  cases r1
  have fr : ∀ b ∈ [s1.heap.objs.size], FpOk X pins H1 b := fun b hb => by
    rw [List.mem_singleton.mp hb]
    exact I1.fpOk (Nat.le_refl _) (I1.hok.fresh (Nat.le_refl _))
  cases t
  · obtain ⟨its, rv, p, hz⟩ := I1.list hq
    refine wpAny_pyIter_list p.isList ?_
    exact ⟨s1.heap.objs.size, [s1.heap.objs.size], _, _, H1, rfl, I1.kept (t' := s1.toks) fun b o e => Heap.get?_push_of_some _ e, turn_list a _, ⟨_, Heap.get?_push_size _ rfl, rfl, rfl⟩, fr, q⟩
  · obtain ⟨its, rv, p, hz⟩ := I1.tuple hq
    refine wpAny_pyIter_tuple (show s1.heap.IsTuple a its.toArray from p) ?_
    exact ⟨s1.heap.objs.size, [s1.heap.objs.size], _, _, H1, rfl, I1.kept (t' := s1.toks) fun b o e => Heap.get?_push_of_some _ e, turn_tuple a _, ⟨_, Heap.get?_push_size _ rfl, rfl, rfl⟩, fr, q⟩
theorem sqB_mono {K : Fg} {t : Bool} {G H : Hp} {a : Addr} {xs : List V} (s : Same G H) (h : SqB K t G a xs) : SqB K t H a xs := by
  cases t
  · exact sq_mono s h
  · exact st_mono s h
theorem walks_seq {K : Fg} {t : Bool} {G : Hp} {a : Addr} {vs : List V} {xs : List D} (h : SqB K t G a vs) (d : RpAll K G vs xs) : Walks K (ItsQ K t a) xs G := by
  have hl := rps_len d
  cases t
  · refine ⟨fun i H hi s => ⟨vs, vs[i]'(by omega), sqB_mono (t := false) s h, by rw [List.getElem?_eq_getElem]⟩, fun H s => ⟨vs, sqB_mono (t := false) s h, by omega⟩, fun i H v H' hi s ⟨e, y⟩ => ?_⟩
    have hv := y vs (sqB_mono (t := false) s h)
    obtain ⟨x, e1, e2⟩ := rps_getV d hv
    exact ⟨x, e1, e, e2⟩
  · refine ⟨fun i H hi s => ⟨vs, vs[i]'(by omega), sqB_mono (t := true) s h, by rw [List.getElem?_eq_getElem]⟩, fun H s => ⟨vs, sqB_mono (t := true) s h, by omega⟩, fun i H v H' hi s ⟨e, y⟩ => ?_⟩
    have hv := y vs (sqB_mono (t := true) s h)
    obtain ⟨x, e1, e2⟩ := rps_getV d hv
    exact ⟨x, e1, e, e2⟩
/-- data that is a list or a tuple -/
def itemsD (x : D) (k : List D → Prop) : Prop := match x with
  | .list xs => k xs
  | .tuple xs => k xs
  | _ => False
theorem itemsD.mono {x : D} {k k' : List D → Prop} (f : ∀ xs, k xs → k' xs) (h : itemsD x k) : itemsD x k' := by
  unfold itemsD at *
  split at h
  · exact f _ h
  · exact f _ h
  · exact h.elim
theorem itemsD.get {K : Fg} {G : Hp} {v : V} {x : D} {k : List D → Prop} (d : Rp K G v x) (h : itemsD x k) : ∃ t a vs xs, v = .ref a ∧ SqB K t G a vs ∧ RpAll K G vs xs ∧ k xs := by
  unfold itemsD at h
  split at h
  · cases d with
    | lst g t => exact ⟨false, _, _, _, rfl, .inl g, t, h⟩
  · cases d with
    | tup g t => exact ⟨true, _, _, _, rfl, g.sq, t, h⟩
  · exact h.elim
def rFs (r : RV) : RF := fun env Q => r env fun x e => itemsD x fun xs => Q xs e
section
variable {X : Cx} {tg : Expr} {p pos : Pos}
theorem qf_seq {l : Expr} {r : RV} (h : QV X l r) : QF X tg l (rFs r) := by
  refine ⟨fun env Q Q' f q => h.mono _ _ _ (fun x e z => z.mono fun xs z => f _ _ z) q, _, pi_seq h.run, ?_⟩
  intro σ H R env G F Q0 rep q k
  refine liftV_of h.mono rep q fun x e v G1 H1 h1 s1 rep1 d1 => ?_
  obtain ⟨t, a, vs, xs, rfl, g1, g2, g3⟩ := h1.get d1
  exact ⟨t, a, vs, rfl, sqB_mono rep1.gh g1, k _ xs e G1 H1 g3 s1 rep1 (walks_seq g1 g2)⟩
def rngD (lo hi : Int) : List D := (List.range (hi - lo).toNat).map fun i => .int (lo + (i : Nat))
theorem rngD_len (lo hi : Int) : (rngD lo hi).length = (hi - lo).toNat := by unfold rngD; rw [List.length_map, List.length_range]
theorem rngD_get {lo hi : Int} {i : Nat} (h : i < (hi - lo).toNat) : (rngD lo hi)[i]? = some (.int (lo + (i : Nat))) := by
  unfold rngD
  rw [List.getElem?_map, List.getElem?_range h]
  rfl
theorem walks_rng {K : Fg} {G : Hp} {lo hi : Int} : Walks K (Itr lo (hi - lo).toNat) (rngD lo hi) G := by
  refine ⟨fun i H h _ => by rw [rngD_len] at h; exact h, fun H _ => by rw [rngD_len]; exact Nat.le_refl _, fun i H v H' h _ ⟨e1, e2⟩ => ?_⟩
  rw [rngD_len] at h
  exact ⟨_, rngD_get h, e1, by rw [e2]; exact .int _⟩
def rRng1 (r : RV) : RF := fun env Q => r env fun x e => match x with
  | .int n => -(2 ^ 62) ≤ n ∧ n < 2 ^ 62 ∧ Q (rngD 0 n) e
  | _ => False
def rRng2 (ra rb : RV) : RF := fun env Q => ra env fun x e => rb e fun y e => match x, y with
  | .int m, .int n => (-(2 ^ 62) ≤ m ∧ m < 2 ^ 62 ∧ -(2 ^ 62) ≤ n ∧ n < 2 ^ 62) ∧ Q (rngD m n) e
  | _, _ => False
theorem qf_range1 {a : Expr} {r : RV} (hm : X.mg "range" = none) (h : QV X a r) (hg : Gl X "range" := by rfl) (hs : starEach [a] X.env = [(false, eval a X.env)] := by rfl) (hs2 : starEach [a] X.env = (false, eval a X.env) :: starEach [] X.env := by rfl) : QF X tg (.Call (.Name "range" p) [a] [] pos) (rRng1 r) := by
  refine ⟨fun env Q Q' f q => h.mono _ _ _ (fun x e z => ?_) q, _, pi_range1 hg hm (pa_cons h.run pa_nil hs2) hs, ?_⟩
  · split at z
    · exact ⟨z.1, z.2.1, f _ _ z.2.2⟩
    · exact z
  intro σ H R env G F Q0 rep q k
  refine liftV_of h.mono rep q fun x e v G1 H1 h1 s1 rep1 d1 => ?_
  split at h1
  · rename_i n
    cases d1
    refine ⟨n, rfl, h1.1, h1.2.1, ?_⟩
    have := k (Itr 0 (n - 0).toNat) _ e G1 H1 h1.2.2 s1 rep1 walks_rng
    rw [Int.sub_zero] at this
    exact this
  · exact h1.elim
theorem qf_range2 {a b : Expr} {ra rb : RV} (hm : X.mg "range" = none) (ha : QV X a ra) (hb : QV X b rb) (hg : Gl X "range" := by rfl) (hs : starEach [a, b] X.env = [(false, eval a X.env), (false, eval b X.env)] := by rfl) (hs2 : starEach [b] X.env = [(false, eval b X.env)] := by rfl)
    (hs3 : starEach [a, b] X.env = (false, eval a X.env) :: starEach [b] X.env := by rfl) (hs4 : starEach [b] X.env = (false, eval b X.env) :: starEach [] X.env := by rfl) : QF X tg (.Call (.Name "range" p) [a, b] [] pos) (rRng2 ra rb) := by
  refine ⟨fun env Q Q' f q => ha.mono _ _ _ (fun x e z => hb.mono _ _ _ (fun y e z => ?_) z) q, _, pi_range2 hg hm (pa_cons ha.run (pa_cons hb.run pa_nil hs4) hs3) hs hs2, ?_⟩
  · split at z
    · exact ⟨z.1, f _ _ z.2⟩
    · exact z
  intro σ H R env G F Q0 rep q k
  refine liftV_of ha.mono rep q fun x e v G1 H1 h1 s1 rep1 d1 => ?_
  refine liftV_of hb.mono rep1 h1 fun y e u G2 H2 h2 s2 rep2 d2 => ?_
  split at h2
  · cases d1
    cases d2
    exact ⟨_, _, rfl, h2.1, k _ _ e G2 H2 h2.2 (s1.trans s2) rep2 walks_rng⟩
  · exact h2.elim
/-! ### zip, enumerate -/
def zipD (xs ys : List D) : List (List D) := List.zipWith (fun x y => [x, y]) xs ys
def rZip (ra rb : RV) : RFT := fun env Q => ra env fun x e1 => rb e1 fun y e2 => itemsD x fun xs => itemsD y fun ys => Q (zipD xs ys) e2
def enumD (xs : List D) : List (List D) := xs.mapIdx fun i x => [.int (i : Nat), x]
def rEnum (ra : RV) : RFT := fun env Q => ra env fun x e1 => itemsD x fun xs => Q (enumD xs) e1
theorem qf_zip {a b : Expr} {elts : List Expr} {kk : Nat} {tpos : Pos} {ra rb : RV} (hm : X.mg "zip" = none) (ha : QV X a ra) (hb : QV X b rb) (hg : Gl X "zip" := by rfl) (hs : starEach [a, b] X.env = (false, eval a X.env) :: starEach [b] X.env := by rfl) (hpl : (backTo pos (starEach [b] X.env)).any (·.1) = false := by rfl)
    (hs4 : starEach [b] X.env = (false, eval b X.env) :: starEach [] X.env := by rfl) : QFT X (.Tuple elts kk tpos) (.Call (.Name "zip" p) [a, b] [] pos) (rZip ra rb) := by
  refine ⟨fun env Q Q' f q => ha.mono _ _ _ (fun x e z => hb.mono _ _ _ (fun y e z => z.mono fun xs z => z.mono fun ys z => f _ _ z) z) q, _, pi_zipQ hg hm (pa_cons ha.run (pa_cons hb.run pa_nil hs4) hs) hs hpl, ?_⟩
  intro σ H R env G F Q0 rep q k
  refine liftV_of ha.mono rep q fun x e v G1 H1 h1 s1 rep1 d1 => ?_
  refine liftV_of hb.mono rep1 h1 fun y e u G2 H2 h2 s2 rep2 d2 => ?_
  obtain ⟨t1, a, vs, xs, rfl, g1, g2, g3⟩ := h2.get (rp_mono s2 _ d1)
  obtain ⟨t2, b, ws, ys, rfl, g4, g5, g6⟩ := g3.get d2
  refine ⟨t1, t2, a, b, vs, ws, rfl, sqB_mono rep2.gh g1, sqB_mono rep2.gh g4, k _ _ e G2 H2 g6 (s1.trans s2) rep2 ⟨fun i H hi s => ?_, fun H s => ?_, fun i H v H' hi s ⟨T, x, y, ev, hT, eH, f1, f2⟩ => ?_⟩⟩
  · have l1 := rps_len g2
    have l2 := rps_len g5
    unfold zipD at hi
    rw [List.length_zipWith] at hi
    exact ⟨vs, ws, vs[i]'(by omega), ws[i]'(by omega), sqB_mono s g1, sqB_mono s g4, by rw [List.getElem?_eq_getElem], by rw [List.getElem?_eq_getElem]⟩
  · exact ⟨vs, ws, sqB_mono s g1, sqB_mono s g4, by unfold zipD; rw [List.length_zipWith, rps_len g2, rps_len g5]⟩
  · obtain ⟨x', q1, q2⟩ := rps_getV g2 (f1 _ (sqB_mono s g1))
    obtain ⟨y', q3, q4⟩ := rps_getV g5 (f2 _ (sqB_mono s g4))
    refine ⟨[x', y'], T, [x, y], ?_, ev, hT, eH, .cons q2 (.cons q4 .nil)⟩
    unfold zipD
    rw [List.getElem?_zipWith, q1, q3]
theorem qf_enum {a : Expr} {elts : List Expr} {kk : Nat} {tpos : Pos} {ra : RV} (hm : X.mg "enumerate" = none) (ha : QV X a ra) (hg : Gl X "enumerate" := by rfl) (hs : starEach [a] X.env = [(false, eval a X.env)] := by rfl) (hs4 : starEach [a] X.env = (false, eval a X.env) :: starEach [] X.env := by rfl) :
    QFT X (.Tuple elts kk tpos) (.Call (.Name "enumerate" p) [a] [] pos) (rEnum ra) := by
  refine ⟨fun env Q Q' f q => ha.mono _ _ _ (fun x e z => z.mono fun xs z => f _ _ z) q, _, pi_enumQ hg hm (pa_cons ha.run pa_nil hs4) hs, ?_⟩
  intro σ H R env G F Q0 rep q k
  refine liftV_of ha.mono rep q fun x e v G1 H1 h1 s1 rep1 d1 => ?_
  obtain ⟨t1, a, vs, xs, rfl, g1, g2, g3⟩ := h1.get d1
  have l1 := rps_len g2
  refine ⟨t1, a, vs, rfl, sqB_mono rep1.gh g1, k _ _ e G1 H1 g3 s1 rep1 ⟨fun i H hi s => ?_, fun H s => ?_, fun i H v H' hi s ⟨T, x, ev, hT, eH, f1⟩ => ?_⟩⟩
  · unfold enumD at hi
    rw [List.length_mapIdx] at hi
    exact ⟨vs, vs[i]'(by omega), sqB_mono s g1, by rw [List.getElem?_eq_getElem]⟩
  · exact ⟨vs, sqB_mono s g1, by unfold enumD; rw [List.length_mapIdx, l1]⟩
  · obtain ⟨x', q1, q2⟩ := rps_getV g2 (f1 _ (sqB_mono s g1))
    refine ⟨[.int (i : Nat), x'], T, [.int (i : Nat), x], ?_, ev, hT, eH, .cons (.int _) (.cons q2 .nil)⟩
    unfold enumD
    rw [List.getElem?_mapIdx, q1]
    rfl
end

/-! ### for -/
def rFor (ri : RF) (t : RG) (body : RS) : RS := fun E env => ri env fun xs e0 => ∃ I : Nat → Env → Prop, I 0 e0 ∧
  (∀ i x e, xs[i]? = some x → I i e → t x e fun e2 => body { E with nx := I (i + 1), ct := I (i + 1), bk := E.nx } e2) ∧ ∀ e, I xs.length e → E.nx e
def rForT (ri : RFT) (n : Nat) (ts : RGs) (body : RS) : RS := fun E env => ri env fun xss e0 => ∃ I : Nat → Env → Prop, I 0 e0 ∧
  (∀ i xs e, xss[i]? = some xs → I i e → xs.length = n ∧ ts xs e fun e2 => body { E with nx := I (i + 1), ct := I (i + 1), bk := E.nx } e2) ∧ ∀ e, I xss.length e → E.nx e
theorem End.le_loop {A B : End} (l : A.le B) (N : Env → Prop) : End.le { A with nx := N, ct := N, bk := A.nx } { B with nx := N, ct := N, bk := B.nx } := ⟨fun _ h => h, l.2.1, l.1, fun _ h => h⟩
section
variable {X : Cx} {kp : List Nat} {pos : Pos}
theorem qs_for {tg iter : Expr} {body : List Stmt} {ri : RF} {sl : List Nat} {t : RG} {r : RS} (hp : PassesOwn (model X.prog X.w) X.A X.env X.xe) (hc : X.calm = true) (hi : QF X tg iter ri) (hg : QG X tg sl t) (hb : QSs X kp body r) (hk : ∀ j ∈ kp, j ∉ sl := by decide)
    (hs : ∀ x, foldedSetIterable iter X.env x = pure x := by intro _; rfl) : QS X kp (.For tg iter body [] pos) (rFor ri t r) := by
  obtain ⟨wi, hpi, hw⟩ := hi.run
  refine ⟨fun A B env l q => hi.mono _ _ _ (fun xs e ⟨I, a, b, c⟩ => ⟨I, a, fun i x e g h => hg.mono _ _ _ _ (fun e z => hb.mono _ _ _ (End.le_loop l _) z) (b i x e g h), fun e h => l.1 _ (c e h)⟩) q, ps_imp (ps_for hp hc hpi hg.run hb.run hs) ?_⟩
  intro E σ H ⟨env, G, F, rep, q⟩
  refine hw σ H _ env G F _ rep q fun J xs e0 G1 H1 ⟨I, i0, i1, i2⟩ s1 rep1 wk => ?_
  refine ⟨fun i m σ' H' => ∃ e G', Same G1 G' ∧ KeepS kp σ σ' ∧ Rep X.K G' F H' σ' e ∧ i + m = xs.length ∧ I i e, ⟨xs.length, e0, G1, idS, keepS_refl, rep1, by omega, i0⟩, fun i m σ' H' ⟨e, G', sG, ks, rp, em, hI⟩ => ?_⟩
  by_cases hlt : i < xs.length
  · refine .inr ⟨wk.go i H' hlt (sG.trans rp.gh), fun σ2 H2 => ∃ e G2, Same G1 G2 ∧ KeepS kp σ σ2 ∧ Rep X.K G2 F H2 σ2 e ∧ I (i + 1) e, fun σ2 H2 ⟨e, G2, a, b, c, d⟩ => ⟨m - 1, by omega, e, G2, a, b, c, by omega, d⟩, fun v H'' y => ?_⟩
    obtain ⟨x, ex, eH, dx⟩ := wk.yld i H' v H'' hlt (sG.trans rp.gh) y
    subst eH
    refine ⟨e, G', F, x, rp, rp_mono sG x dx, hg.mono _ _ _ _ (fun e2 z σ2 k2 l2 rep2 => ?_) (i1 i x e ex hI)⟩
    have ks2 : KeepS kp σ σ2 := ks.trans fun j m => k2 j (hk j m)
    refine ⟨e2, G', F, rep2, hb.mono { liftEnd X.K kp G F σ E with nx := I (i + 1), ct := I (i + 1), bk := (liftEnd X.K kp G F σ E).nx } _ _ ⟨fun e3 h3 σ3 G3 H3 s3 k3 r3 => ⟨e3, G3, sG.trans s3, ks2.trans k3, r3, h3⟩, fun o e3 h3 v σ3 G3 H3 s3 k3 r3 => h3 v σ3 G3 H3 ((s1.trans sG).trans s3) (ks2.trans k3) r3,
      fun e3 h3 σ3 G3 H3 s3 k3 r3 => h3 σ3 G3 H3 ((s1.trans sG).trans s3) (ks2.trans k3) r3, fun e3 h3 σ3 G3 H3 s3 k3 r3 => ⟨e3, G3, sG.trans s3, ks2.trans k3, r3, h3⟩⟩ z⟩
  · have ei : i = xs.length := by omega
    subst ei
    exact .inl ⟨wk.stop H' (sG.trans rp.gh), i2 e hI σ' G' H' (s1.trans sG) ks rp⟩
theorem qs_forT {elts : List Expr} {kk : Nat} {tpos : Pos} {iter : Expr} {body : List Stmt} {ri : RFT} {sl : List Nat} {ts : RGs} {r : RS} (n : Nat) (hp : PassesOwn (model X.prog X.w) X.A X.env X.xe) (hc : X.calm = true) (hi : QFT X (.Tuple elts kk tpos) iter ri) (hg : QGs X elts sl ts) (hb : QSs X kp body r) (hk : ∀ j ∈ kp, j ∉ sl := by decide)
    (hn : (assignEach elts X.env).length = n := by rfl) (hst : (assignEach elts X.env).findIdx? (·.1) = none := by rfl) (hs : ∀ x, foldedSetIterable iter X.env x = pure x := by intro _; rfl) : QS X kp (.For (.Tuple elts kk tpos) iter body [] pos) (rForT ri n ts r) := by
  obtain ⟨wi, hpi, hw⟩ := hi.run
  refine ⟨fun A B env l q => hi.mono _ _ _ (fun xs e ⟨I, a, b, c⟩ => ⟨I, a, fun i x e g h => ⟨(b i x e g h).1, hg.mono _ _ _ _ (fun e z => hb.mono _ _ _ (End.le_loop l _) z) (b i x e g h).2⟩, fun e h => l.1 _ (c e h)⟩) q, ps_imp (ps_for hp hc hpi (pg_tup hc hg.run hn hst) hb.run hs) ?_⟩
  intro E σ H ⟨env, G, F, rep, q⟩
  refine hw σ H _ env G F _ rep q fun J xss e0 G1 H1 ⟨I, i0, i1, i2⟩ s1 rep1 wk => ?_
  refine ⟨fun i m σ' H' => ∃ e G', Same G1 G' ∧ KeepS kp σ σ' ∧ Rep X.K G' F H' σ' e ∧ i + m = xss.length ∧ I i e, ⟨xss.length, e0, G1, idS, keepS_refl, rep1, by omega, i0⟩, fun i m σ' H' ⟨e, G', sG, ks, rp, em, hI⟩ => ?_⟩
  by_cases hlt : i < xss.length
  · refine .inr ⟨wk.go i H' hlt (sG.trans rp.gh), fun σ2 H2 => ∃ e G2, Same G1 G2 ∧ KeepS kp σ σ2 ∧ Rep X.K G2 F H2 σ2 e ∧ I (i + 1) e, fun σ2 H2 ⟨e, G2, a, b, c, d⟩ => ⟨m - 1, by omega, e, G2, a, b, c, by omega, d⟩, fun v H'' y => ?_⟩
    obtain ⟨xs, T, vs, ex, ev, hT, eH, dx⟩ := wk.yld i H' v H'' hlt (sG.trans rp.gh) y
    subst eH ev
    obtain ⟨hl, z⟩ := i1 i xs e ex hI
    have rT := rp.newG (o := .tup vs) hT
    refine ⟨T, vs, rfl, .inl (.inl upd_same), by rw [rps_len dx]; exact hl, e, _, F, xs, rT.1, rps_mono (sG.trans rT.2) xs dx, hg.mono _ _ _ _ (fun e2 z σ2 k2 l2 rep2 => ?_) z⟩
    have ks2 : KeepS kp σ σ2 := ks.trans fun j m => k2 j (hk j m)
    have sG2 := sG.trans rT.2
    refine ⟨e2, _, F, rep2, hb.mono { liftEnd X.K kp G F σ E with nx := I (i + 1), ct := I (i + 1), bk := (liftEnd X.K kp G F σ E).nx } _ _ ⟨fun e3 h3 σ3 G3 H3 s3 k3 r3 => ⟨e3, G3, sG2.trans s3, ks2.trans k3, r3, h3⟩, fun o e3 h3 v σ3 G3 H3 s3 k3 r3 => h3 v σ3 G3 H3 ((s1.trans sG2).trans s3) (ks2.trans k3) r3,
      fun e3 h3 σ3 G3 H3 s3 k3 r3 => h3 σ3 G3 H3 ((s1.trans sG2).trans s3) (ks2.trans k3) r3, fun e3 h3 σ3 G3 H3 s3 k3 r3 => ⟨e3, G3, sG2.trans s3, ks2.trans k3, r3, h3⟩⟩ z⟩
  · have ei : i = xss.length := by omega
    subst ei
    exact .inl ⟨wk.stop H' (sG.trans rp.gh), i2 e hI σ' G' H' (s1.trans sG) ks rp⟩
/-! ### while -/
def rWhile (c : RT) (body : RS) : RS := fun E env => ∃ W : Nat → Env → Prop, (∃ m, W m env) ∧ ∀ m e, W m e → c e fun b e1 =>
  if b = true then body { E with nx := fun e2 => ∃ m', m' < m ∧ W m' e2, ct := fun e2 => ∃ m', m' < m ∧ W m' e2, bk := E.nx } e1 else E.nx e1
theorem qs_while {c : Expr} {body : List Stmt} {t : RT} {r : RS} (hp : PassesOwn (model X.prog X.w) X.A X.env X.xe) (hc : QT X c t) (hb : QSs X kp body r) : QS X kp (.While c body [] pos) (rWhile t r) := by
  refine ⟨fun A B env l ⟨W, a, b⟩ => ⟨W, a, fun m e h => hc.mono _ _ _ (fun x e z => ite_mono (hb.mono _ _ _ (End.le_loop l _)) (l.1 _) z) (b m e h)⟩, ps_imp (ps_while hp hc.run hb.run) ?_⟩
  intro E σ H ⟨env, G, F, rep, W, ⟨m0, w0⟩, turn⟩
  refine ⟨fun m σ' H' => ∃ e G', Same G G' ∧ KeepS kp σ σ' ∧ Rep X.K G' F H' σ' e ∧ W m e, ⟨m0, env, G, idS, keepS_refl, rep, w0⟩, fun m σ' H' ⟨e, G', sG, ks, rp, hW⟩ => ?_⟩
  refine liftT_of hc.mono rp (turn m e hW) fun b e1 G1 H1 h1 s1 rep1 => ?_
  have s2 := sG.trans s1
  refine ite_mono (fun z => ?_) (fun z => ?_) h1
  · refine ⟨fun σ2 H2 => ∃ e G2 m', m' < m ∧ Same G G2 ∧ KeepS kp σ σ2 ∧ Rep X.K G2 F H2 σ2 e ∧ W m' e, fun σ2 H2 ⟨e, G2, m', lt, a, b, c, d⟩ => ⟨m', lt, e, G2, a, b, c, d⟩, e1, G1, F, rep1, ?_⟩
    exact hb.mono { liftEnd X.K kp G F σ E with nx := fun e2 => ∃ m', m' < m ∧ W m' e2, ct := fun e2 => ∃ m', m' < m ∧ W m' e2, bk := (liftEnd X.K kp G F σ E).nx } _ _ ⟨fun e3 ⟨m', lt, h3⟩ σ3 G3 H3 s3 k3 r3 => ⟨e3, G3, m', lt, s2.trans s3, ks.trans k3, r3, h3⟩, fun o e3 h3 v σ3 G3 H3 s3 k3 r3 => h3 v σ3 G3 H3 (s2.trans s3) (ks.trans k3) r3,
      fun e3 h3 σ3 G3 H3 s3 k3 r3 => h3 σ3 G3 H3 (s2.trans s3) (ks.trans k3) r3, fun e3 ⟨m', lt, h3⟩ σ3 G3 H3 s3 k3 r3 => ⟨e3, G3, m', lt, s2.trans s3, ks.trans k3, r3, h3⟩⟩ z
  · exact z σ' G1 H1 s2 ks rep1
end
end Pf
set_option Elab.async false
set_option linter.all false
set_option maxRecDepth 100000
set_option maxHeartbeats 4000000
/-! Pf: list comprehensions. -/
namespace Pf
open PySem PySem.Spec PyProof.Rows L2

def wipeE (e : Env) : List Nat → Env
  | [] => e
  | v :: vs => (wipeE e vs).set v none
/-- the slots as they stood ahead of the comprehension: data alone -/
def dataAt (e : Env) (j : Nat) : Option O := match e[j]? with
  | some (some (.d x)) => some (.d x)
  | _ => none
def backE (e0 e : Env) : List Nat → Env
  | [] => e
  | v :: vs => (backE e0 e vs).set v (dataAt e0 v)
theorem slots_wipe {K : Fg} {G H : Hp} {σ : L2.St} {e : Env} {fp : List Addr} (s : Slots K G H σ e fp) : ∀ vs : List Nat, ∃ fp', fp'.Sublist fp ∧ Slots K G H (wipe σ vs) (wipeE e vs) fp'
  | [] => ⟨fp, .refl _, s⟩
  | v :: vs => by
    obtain ⟨fp', h1, h2⟩ := slots_wipe s vs
    show ∃ fp', _ ∧ Slots K G H ((wipe σ vs).set v none) ((wipeE e vs).set v none) fp'
    rcases get_or (wipeE e vs) v with ⟨oo, g⟩ | g
    · obtain ⟨fa, f1, fb, x, e1, e2, e3, f⟩ := h2.split g
      subst e1
      exact ⟨_, (List.Sublist.append (List.Sublist.refl _) (List.sublist_append_right _ _)).trans h1, f G H none none [] idS (fun _ _ => rfl) rfl⟩
    · have hl : (wipeE e vs).length ≤ v := by
        by_cases hl : (wipeE e vs).length ≤ v
        · exact hl
        · have a := congrArg (fun l : Env => l[v]?) (g (some (.d .none)))
          have b := congrArg (fun l : Env => l[v]?) (g none)
          simp only [List.getElem?_set_self (Nat.lt_of_not_le hl)] at a b
          rw [← a] at b
          cases b
      rw [g none, List.set_eq_of_length_le (by rw [h2.len]; exact hl)]
      exact ⟨fp', h1, h2⟩
theorem Rep.wipe {K : Fg} {G F H : Hp} {σ : L2.St} {e : Env} (r : Rep K G F H σ e) (vs : List Nat) : Rep K G F H (L2.wipe σ vs) (wipeE e vs) := by
  obtain ⟨fp, s, w⟩ := r
  obtain ⟨fp', h1, h2⟩ := slots_wipe s vs
  exact ⟨fp', h2, w.sub h1⟩
def backS (σ0 σ : L2.St) : List Nat → L2.St
  | [] => σ
  | v :: vs => (match σ0[v]? with | some x => (backS σ0 σ vs).set v x | none => backS σ0 σ vs)
theorem backS_len (σ0 σ : L2.St) : ∀ vs : List Nat, (backS σ0 σ vs).length = σ.length
  | [] => rfl
  | v :: vs => by
    unfold backS
    split
    · rw [List.length_set, backS_len σ0 σ vs]
    · exact backS_len σ0 σ vs
theorem backS_get {σ0 σ : L2.St} (hl : σ.length = σ0.length) : ∀ {vs : List Nat}, (∀ j, j ∉ vs → σ[j]? = σ0[j]?) → backS σ0 σ vs = σ0 := by
  have key : ∀ (vs : List Nat) (j : Nat), (backS σ0 σ vs)[j]? = if j ∈ vs then σ0[j]? else σ[j]? := by
    intro vs j
    induction vs with
    | nil => rw [if_neg (by simp)]; rfl
    | cons v vs ih =>
      unfold backS
      by_cases hj : j = v
      · subst hj
        rw [if_pos List.mem_cons_self]
        split
        · rename_i x e
          rw [List.getElem?_set_self, e]
          rw [backS_len, hl]
          exact (List.getElem?_eq_some_iff.mp e).1
        · rename_i e
          rw [e, List.getElem?_eq_none_iff, backS_len, hl]
          exact List.getElem?_eq_none_iff.mp e
      · have hm : (j ∈ v :: vs) ↔ j ∈ vs := by
          simp [hj]
        split
        · rw [List.getElem?_set_ne (fun z => hj z.symm), ih]
          by_cases h : j ∈ vs
          · rw [if_pos h, if_pos (hm.mpr h)]
          · rw [if_neg h, if_neg (fun z => h (hm.mp z))]
        · rw [ih]
          by_cases h : j ∈ vs
          · rw [if_pos h, if_pos (hm.mpr h)]
          · rw [if_neg h, if_neg (fun z => h (hm.mp z))]
  intro vs h
  refine List.ext_getElem? fun j => ?_
  rw [key]
  by_cases hj : j ∈ vs
  · rw [if_pos hj]
  · rw [if_neg hj, h j hj]
theorem slots_back {K : Fg} {G0 F0 H0 G H : Hp} {σ0 σ : L2.St} {e0 e : Env} {fp : List Addr} (r0 : Rep K G0 F0 H0 σ0 e0) (sG : Same G0 G) (s : Slots K G H σ e fp) : ∀ vs : List Nat, ∃ fp', fp'.Sublist fp ∧ Slots K G H (backS σ0 σ vs) (backE e0 e vs) fp'
  | [] => ⟨fp, .refl _, s⟩
  | v :: vs => by
    obtain ⟨fp', h1, h2⟩ := slots_back r0 sG s vs
    rcases get_or (backE e0 e vs) v with ⟨oo, g⟩ | g
    · obtain ⟨fa, f1, fb, x, e1, e2, e3, f⟩ := h2.split g
      subst e1
      have sub : (fa ++ ([] ++ fb)).Sublist fp := (List.Sublist.append (List.Sublist.refl _) (List.sublist_append_right _ _)).trans h1
      unfold backS backE
      cases q : σ0[v]? with
      | none =>
        have hd : dataAt e0 v = none := by
          unfold dataAt
          split
          · rename_i y ey
            obtain ⟨u, eu, _⟩ := r0.getD ey
            rw [q] at eu
            cases eu
          · rfl
        dsimp only
        rw [hd]
        have := f G H x none [] idS (fun _ _ => rfl) rfl
        rw [set_self e2] at this
        exact ⟨_, sub, this⟩
      | some y =>
        dsimp only
        refine ⟨_, sub, f G H y (dataAt e0 v) [] idS (fun _ _ => rfl) ?_⟩
        unfold dataAt
        split
        · rename_i z ez
          obtain ⟨u, eu, du⟩ := r0.getD ez
          rw [q] at eu
          cases eu
          exact ⟨u, rfl, rp_mono sG z du, rfl⟩
        · rfl
    · have hl : (backE e0 e vs).length ≤ v := by
        by_cases hl : (backE e0 e vs).length ≤ v
        · exact hl
        · have a := congrArg (fun l : Env => l[v]?) (g (some (.d .none)))
          have b := congrArg (fun l : Env => l[v]?) (g none)
          simp only [List.getElem?_set_self (Nat.lt_of_not_le hl)] at a b
          rw [← a] at b
          cases b
      unfold backS backE
      rw [g]
      refine ⟨fp', h1, ?_⟩
      split
      · rw [List.set_eq_of_length_le (by rw [h2.len]; exact hl)]
        exact h2
      · exact h2
theorem Rep.back {K : Fg} {G0 F0 H0 G F H : Hp} {σ0 σ : L2.St} {e0 e : Env} {vs : List Nat} (r : Rep K G F H σ e) (r0 : Rep K G0 F0 H0 σ0 e0) (sG : Same G0 G) (hl : σ.length = σ0.length) (ho : ∀ j, j ∉ vs → σ[j]? = σ0[j]?) : Rep K G F H σ0 (backE e0 e vs) := by
  obtain ⟨fp, s, w⟩ := r
  obtain ⟨fp', h1, h2⟩ := slots_back r0 sG s vs
  rw [backS_get hl ho] at h2
  exact ⟨fp', h2, w.sub h1⟩
/-- what the frame holds at D may change -/
theorem Rep.frame {K : Fg} {G F H : Hp} {σ : L2.St} {e : Env} {D : Addr} {o o' : HO} (r : Rep K G (upd F D o) H σ e) : Rep K G (upd F D o') (upd H D o') σ e := by
  obtain ⟨fp, s, w⟩ := r
  have hD : ∀ a ∈ fp, a ≠ D := fun a m z => by
    have := w.pf a m
    rw [z, upd_same] at this
    cases this
  have gD : ∀ a, G a ≠ none → a ≠ D := fun a h z => by
    have := w.gf a h
    rw [z, upd_same] at this
    cases this
  refine ⟨fp, s.mono idS fun a m => upd_ne (hD a m), fun a ob h => ?_, fun a ob h => ?_, fun a h => ?_, w.nd, w.pg, fun a m => ?_⟩
  · rw [upd_ne (gD a (by rw [h]; exact fun z => nomatch z))]
    exact w.gh a ob h
  · by_cases z : a = D
    · subst z
      rw [upd_same] at h ⊢
      exact h
    · rw [upd_ne z] at h ⊢
      exact w.fh a ob (by rw [upd_ne z]; exact h)
  · rw [upd_ne (gD a h)]
    have := w.gf a h
    rw [upd_ne (gD a h)] at this
    exact this
  · have := w.pf a m
    rw [upd_ne (hD a m)] at this ⊢
    exact this
theorem Rep.hold {K : Fg} {G F H : Hp} {σ : L2.St} {e : Env} {D : Addr} {o : HO} (r : Rep K G F H σ e) (h : H D = none) : Rep K G (upd F D o) (upd H D o) σ e := by
  obtain ⟨fp, s, w⟩ := r
  have hD : ∀ a ∈ fp, a ≠ D := fun a m z => s.dom a m (by rw [z]; exact h)
  have gD : ∀ a, G a ≠ none → a ≠ D := fun a g z => by
    rw [z, same_none w.gh h] at g
    exact g rfl
  refine ⟨fp, s.mono idS fun a m => upd_ne (hD a m), fun a ob g => ?_, fun a ob g => ?_, fun a g => ?_, w.nd, w.pg, fun a m => ?_⟩
  · rw [upd_ne (gD a (by rw [g]; exact fun z => nomatch z))]
    exact w.gh a ob g
  · by_cases z : a = D
    · subst z
      rw [upd_same] at g ⊢
      exact g
    · rw [upd_ne z] at g ⊢
      exact w.fh a ob g
  · rw [upd_ne (gD a g)]
    exact w.gf a g
  · rw [upd_ne (hD a m)]
    exact w.pf a m
theorem Rep.own {K : Fg} {G F H : Hp} {σ : L2.St} {e : Env} {D : Addr} {vs : List V} (r : Rep K G (upd F D (.lst vs)) H σ e) (hF : F D = none) {ys : List PyData} (d : RpAll K G vs ys) : RepV K G F H σ e (.ref D) (.own ys) := by
  obtain ⟨fp, s, w⟩ := r
  have hD : ∀ a ∈ fp, a ≠ D := fun a m z => by
    have := w.pf a m
    rw [z, upd_same] at this
    cases this
  have gD : ∀ a, G a ≠ none → a ≠ D := fun a h z => by
    have := w.gf a h
    rw [z, upd_same] at this
    cases this
  refine ⟨fp, [D], s, ⟨D, vs, rfl, rfl, w.fh D _ upd_same, d⟩, w.gh, fun a o h => w.fh a o ?_, fun a h => ?_, ?_, fun a m => ?_, fun a m => ?_⟩
  · rw [upd_ne (fun z => by rw [z, hF] at h; cases h)]
    exact h
  · have := w.gf a h
    rw [upd_ne (gD a h)] at this
    exact this
  · rw [List.singleton_append, List.nodup_cons]
    exact ⟨fun m => hD D m rfl, w.nd⟩
  · rcases List.mem_append.mp m with m | m
    · rw [List.mem_singleton.mp m]
      exact none_of fun o h => gD D (by rw [h]; exact fun z => nomatch z) rfl
    · exact w.pg a m
  · rcases List.mem_append.mp m with m | m
    · rw [List.mem_singleton.mp m]
      exact hF
    · have := w.pf a m
      rw [upd_ne (hD a m)] at this
      exact this
theorem wipe_out {σ σ' : L2.St} (hl : σ'.length = σ.length) : ∀ {vs : List Nat}, (∀ j, j ∉ vs → σ'[j]? = σ[j]?) → L2.wipe σ' vs = L2.wipe σ vs := by
  have key : ∀ (τ : L2.St) (vs : List Nat) (j : Nat), (L2.wipe τ vs)[j]? = if j ∈ vs then (τ[j]?).map fun _ => none else τ[j]? := by
    intro τ vs j
    induction vs with
    | nil => rw [if_neg (by simp)]; rfl
    | cons v vs ih =>
      unfold L2.wipe
      by_cases hj : v = j
      · subst hj
        rw [if_pos List.mem_cons_self]
        by_cases h : v < τ.length
        · rw [List.getElem?_set_self (by rw [L2.wipe_length]; exact h), List.getElem?_eq_getElem h]
          rfl
        · rw [List.getElem?_eq_none_iff.mpr (by rw [List.length_set, L2.wipe_length]; omega), List.getElem?_eq_none_iff.mpr (by omega)]
          rfl
      · rw [List.getElem?_set_ne hj, ih]
        by_cases h : j ∈ vs
        · rw [if_pos h, if_pos (List.mem_cons_of_mem _ h)]
        · rw [if_neg h, if_neg (by simp only [List.mem_cons, not_or]; exact ⟨fun z => hj z.symm, h⟩)]
  intro vs h
  refine List.ext_getElem? fun j => ?_
  rw [key, key]
  by_cases hj : j ∈ vs
  · rw [if_pos hj, if_pos hj]
    by_cases h1 : j < σ.length
    · rw [List.getElem?_eq_getElem h1, List.getElem?_eq_getElem (by omega)]
      rfl
    · rw [List.getElem?_eq_none_iff.mpr (by omega), List.getElem?_eq_none_iff.mpr (by omega)]
  · rw [if_neg hj, if_neg hj, h j hj]
theorem wipe_get {σ : L2.St} {vs : List Nat} {j : Nat} (h : j ∉ vs) : (L2.wipe σ vs)[j]? = σ[j]? := L2.wipe_out h

/-! ### [elt for target in iter if test] -/
def rLc (ri : RF) (t : RG) (c : RT) (re : RV) (vs : List Nat) : RE := fun env Q => ri env fun xs e0 => ∃ I : Nat → List D → Env → Prop, I 0 [] e0 ∧
  (∀ i x acc e, xs[i]? = some x → I i acc e → t x (wipeE e vs) fun e1 => c e1 fun b e2 => if b = true then re e2 fun y e3 => acc.length < sizeLine ∧ I (i + 1) (acc ++ [y]) (backE e e3 vs) else I (i + 1) acc (backE e e2 vs)) ∧
  ∀ acc e, I xs.length acc e → Q (.own acc) e
def rLcT (ri : RFT) (n : Nat) (ts : RGs) (c : RT) (re : RV) (vs : List Nat) : RE := fun env Q => ri env fun xss e0 => ∃ I : Nat → List D → Env → Prop, I 0 [] e0 ∧
  (∀ i xs acc e, xss[i]? = some xs → I i acc e → xs.length = n ∧ ts xs (wipeE e vs) fun e1 => c e1 fun b e2 => if b = true then re e2 fun y e3 => acc.length < sizeLine ∧ I (i + 1) (acc ++ [y]) (backE e e3 vs) else I (i + 1) acc (backE e e2 vs)) ∧
  ∀ acc e, I xss.length acc e → Q (.own acc) e
/-- tests of a comprehension -/
structure QTs (X : Cx) (ifs : List Expr) (r : RT) : Prop where
  mono : MonoK r
  run : PTs X ifs (liftT X.K r)
def rYes : RT := fun env Q => Q true env
theorem pts_imp {X : Cx} {e : List Expr} {t t' : TT} (h : PTs X e t) (f : ∀ σ H Q, t' σ H Q → t σ H Q) : PTs X e t' := ⟨fun pins s σ H Q I q => h.run pins s σ H Q I (f σ H Q q)⟩
theorem qts_nil {X : Cx} : QTs X [] rYes := ⟨fun env Q Q' f h => f _ _ h, pts_imp pts_nil fun σ H Q ⟨env, G, F, rep, h⟩ => h G H idS rep⟩
theorem qts_one {X : Cx} {c : Expr} {r : RT} (h : QT X c r) : QTs X [c] r := ⟨h.mono, pts_one h.run⟩

section
variable {X : Cx} {elt tg iter : Expr} {ifs : List Expr} {scope : Scope} {own : List (Str × Nat)} {pos : Pos} {sl : List Nat} {c : RT} {re : RV}
/-- one turn behind the target -/
theorem lc_turn {K : Fg} {G0 F H : Hp} {σ σ2 : L2.St} {e e1 : Env} {vs : List Nat} {D : Addr} {us : List V} {acc : List PyData} {J1 J2 : List PyData → Env → Prop} {N : Hp → Prop} (mc : MonoK c) (me : MonoK re) (r0 : Rep K G0 (upd F D (.lst us)) H σ e) (hus : RpAll K G0 us acc)
    {G1 H1 : Hp} (r1 : Rep K G1 (upd F D (.lst us)) H1 σ2 e1) (sG : Same G0 G1) (hl : σ2.length = σ.length) (ho : ∀ j, j ∉ vs → σ2[j]? = σ[j]?)
    (z : c e1 fun b e2 => if b = true then re e2 fun y e3 => acc.length < sizeLine ∧ J1 (acc ++ [y]) (backE e e3 vs) else J2 acc (backE e e2 vs))
    (n1 : ∀ G' H' us' acc' e', Same G1 G' → Rep K G' (upd F D (.lst us')) H' σ e' → RpAll K G' us' acc' → J1 acc' e' → N H') (n2 : ∀ G' H' us' acc' e', Same G1 G' → Rep K G' (upd F D (.lst us')) H' σ e' → RpAll K G' us' acc' → J2 acc' e' → N H') :
    liftT K c σ2 H1 fun b H3 => if b = true then liftV K re σ2 H3 fun y H4 => ∃ acc, H4 D = some (.lst acc) ∧ acc.length < sizeLine ∧ N (upd H4 D (.lst (acc ++ [y]))) else N H3 := by
  refine liftT_of mc r1 z fun b e2 G2 H2 z2 s2 r2 => ite_mono (fun z3 => ?_) (fun z3 => ?_) z2
  · refine liftV_of me r2 z3 fun y e3 v G3 H3 z4 s3 r3 d3 => ?_
    obtain ⟨fp, sl3, w3⟩ := r3
    refine ⟨us, w3.fh D _ upd_same, by rw [rps_len hus]; exact z4.1, ?_⟩
    have rb := (show Rep K G3 (upd F D (.lst us)) H3 σ2 e3 from ⟨fp, sl3, w3⟩).back (vs := vs) r0 ((sG.trans s2).trans s3) hl ho
    exact n1 G3 _ (us ++ [v]) _ _ (s2.trans s3) rb.frame (rps_append (rps_mono ((sG.trans s2).trans s3) acc hus) (.cons d3 .nil)) z4.2
  · exact n2 G2 H2 us acc _ s2 (r2.back r0 (sG.trans s2) hl ho) (rps_mono (sG.trans s2) acc hus) z3
theorem pe_qlc {ri : RF} {t : RG} (hc : X.calm = true) (hN : X.N.Nodup) (hi : QF X tg iter ri) (ok : BlkOk X.N X.env.scope scope own) (hsl : ∀ j ∈ sl, j ∈ own.map (·.2))
    (hg : ∀ (s : Shared) (H : Hp) (C : Addr) (cl : List (Str × Addr)) (fp : List Addr), QG (X.blk s H scope (compEnvC scope cl C X.env) fp) tg sl t) (ht : ∀ (s : Shared) (H : Hp) (C : Addr) (cl : List (Str × Addr)) (fp : List Addr), QTs (X.blk s H scope (compEnvC scope cl C X.env) fp) ifs c)
    (he : ∀ (s : Shared) (H : Hp) (C : Addr) (cl : List (Str × Addr)) (fp : List Addr), QV (X.blk s H scope (compEnvC scope cl C X.env) fp) elt re) (hmt : MonoG t) (hmc : MonoK c) (hme : MonoK re) :
    MonoK (rLc ri t c re (own.map (·.2))) ∧ ∃ wi, PI X tg iter wi ∧ ∀ σ H Q, liftO X.K (rLc ri t c re (own.map (·.2))) σ H Q → tLc wi (liftG X.K sl t) (liftT X.K c) (liftV X.K re) (own.map (·.2)) σ H Q := by
  obtain ⟨wi, hpi, hw⟩ := hi.run
  refine ⟨fun env Q Q' f q => hi.mono _ _ _ (fun xs e ⟨I, a, b, d⟩ => ⟨I, a, b, fun acc e h => f _ _ (d acc e h)⟩) q, wi, hpi, ?_⟩
  intro σ H Q ⟨env, G, F, rep, q⟩
  refine hw σ H _ env G F _ rep q fun J xs e0 G1 H1 ⟨I, i0, i1, i2⟩ s1 rep1 wk => ?_
  intro D hD
  have hF : F D = none := let ⟨_, _, w⟩ := rep1; same_none w.fh hD
  refine ⟨fun i m H' => ∃ e G' us acc, Same G1 G' ∧ Rep X.K G' (upd F D (.lst us)) H' σ e ∧ RpAll X.K G' us acc ∧ i + m = xs.length ∧ I i acc e, ⟨xs.length, e0, G1, [], [], idS, rep1.hold hD, .nil, by omega, i0⟩, fun i m H' ⟨e, G', us, acc, sG, rp, hus, em, hI⟩ => ?_⟩
  by_cases hlt : i < xs.length
  · refine .inr ⟨wk.go i H' hlt (sG.trans rp.gh), fun H2 => ∃ e G2 us acc, Same G1 G2 ∧ Rep X.K G2 (upd F D (.lst us)) H2 σ e ∧ RpAll X.K G2 us acc ∧ I (i + 1) acc e, fun H2 ⟨e, G2, us, acc, a, b, c, d⟩ => ⟨m - 1, by omega, e, G2, us, acc, a, b, c, by omega, d⟩, fun v H'' y => ?_⟩
    obtain ⟨x, ex, eH, dx⟩ := wk.yld i H' v H'' hlt (sG.trans rp.gh) y
    subst eH
    refine ⟨_, G', _, x, rp.wipe (own.map (·.2)), rp_mono sG x dx, hmt _ _ _ _ (fun e1 z σ2 k2 l2 rep2 => ?_) (i1 i x acc e ex hI)⟩
    have hl : σ2.length = σ.length := by rw [l2, L2.wipe_length]
    have ho : ∀ j, j ∉ own.map (·.2) → σ2[j]? = σ[j]? := fun j m => by rw [k2 j (fun m2 => m (hsl j m2)), wipe_get m]
    refine ⟨wipe_out hl ho, ?_⟩
    exact lc_turn hmc hme rp hus rep2 idS hl ho z (fun G3 H3 us' acc' e' s3 r3 d3 j3 => ⟨e', G3, us', acc', sG.trans s3, r3, d3, j3⟩) (fun G3 H3 us' acc' e' s3 r3 d3 j3 => ⟨e', G3, us', acc', sG.trans s3, r3, d3, j3⟩)
  · have ei : i = xs.length := by omega
    subst ei
    exact .inl ⟨wk.stop H' (sG.trans rp.gh), i2 acc e hI _ G' H' (s1.trans sG) (rp.own hF hus)⟩
theorem pe_qlcT {elts : List Expr} {kk : Nat} {tpos : Pos} {ri : RFT} {ts : RGs} (n : Nat) (hc : X.calm = true) (hN : X.N.Nodup) (hi : QFT X (.Tuple elts kk tpos) iter ri) (ok : BlkOk X.N X.env.scope scope own) (hsl : ∀ j ∈ sl, j ∈ own.map (·.2))
    (hmt : MonoG ts) (hmc : MonoK c) (hme : MonoK re) :
    MonoK (rLcT ri n ts c re (own.map (·.2))) ∧ ∃ wi, PI X (.Tuple elts kk tpos) iter wi ∧ ∀ σ H Q, liftO X.K (rLcT ri n ts c re (own.map (·.2))) σ H Q → tLc wi (gTup X.K n (liftGs X.K sl ts)) (liftT X.K c) (liftV X.K re) (own.map (·.2)) σ H Q := by
  obtain ⟨wi, hpi, hw⟩ := hi.run
  refine ⟨fun env Q Q' f q => hi.mono _ _ _ (fun xs e ⟨I, a, b, d⟩ => ⟨I, a, b, fun acc e h => f _ _ (d acc e h)⟩) q, wi, hpi, ?_⟩
  intro σ H Q ⟨env, G, F, rep, q⟩
  refine hw σ H _ env G F _ rep q fun J xss e0 G1 H1 ⟨I, i0, i1, i2⟩ s1 rep1 wk => ?_
  intro D hD
  have hF : F D = none := let ⟨_, _, w⟩ := rep1; same_none w.fh hD
  refine ⟨fun i m H' => ∃ e G' us acc, Same G1 G' ∧ Rep X.K G' (upd F D (.lst us)) H' σ e ∧ RpAll X.K G' us acc ∧ i + m = xss.length ∧ I i acc e, ⟨xss.length, e0, G1, [], [], idS, rep1.hold hD, .nil, by omega, i0⟩, fun i m H' ⟨e, G', us, acc, sG, rp, hus, em, hI⟩ => ?_⟩
  by_cases hlt : i < xss.length
  · refine .inr ⟨wk.go i H' hlt (sG.trans rp.gh), fun H2 => ∃ e G2 us acc, Same G1 G2 ∧ Rep X.K G2 (upd F D (.lst us)) H2 σ e ∧ RpAll X.K G2 us acc ∧ I (i + 1) acc e, fun H2 ⟨e, G2, us, acc, a, b, c, d⟩ => ⟨m - 1, by omega, e, G2, us, acc, a, b, c, by omega, d⟩, fun v H'' y => ?_⟩
    obtain ⟨xs, T, ws, ex, ev, hT, eH, dx⟩ := wk.yld i H' v H'' hlt (sG.trans rp.gh) y
    subst eH ev
    obtain ⟨hl, z⟩ := i1 i xs acc e ex hI
    have rT := rp.newG (o := .tup ws) hT
    refine ⟨T, ws, rfl, .inl (.inl upd_same), by rw [rps_len dx]; exact hl, _, _, _, xs, rT.1.wipe (own.map (·.2)), rps_mono (sG.trans rT.2) xs dx, hmt _ _ _ _ (fun e1 z σ2 k2 l2 rep2 => ?_) z⟩
    have hl : σ2.length = σ.length := by rw [l2, L2.wipe_length]
    have ho : ∀ j, j ∉ own.map (·.2) → σ2[j]? = σ[j]? := fun j m => by rw [k2 j (fun m2 => m (hsl j m2)), wipe_get m]
    refine ⟨wipe_out hl ho, ?_⟩
    have sG2 := sG.trans rT.2
    exact lc_turn hmc hme rT.1 (rps_mono rT.2 acc hus) rep2 idS hl ho z (fun G3 H3 us' acc' e' s3 r3 d3 j3 => ⟨e', G3, us', acc', sG2.trans s3, r3, d3, j3⟩) (fun G3 H3 us' acc' e' s3 r3 d3 j3 => ⟨e', G3, us', acc', sG2.trans s3, r3, d3, j3⟩)
  · have ei : i = xss.length := by omega
    subst ei
    exact .inl ⟨wk.stop H' (sG.trans rp.gh), i2 acc e hI _ G' H' (s1.trans sG) (rp.own hF hus)⟩
/-- as a value -/
theorem qe_lc {ri : RF} {t : RG} (hc : X.calm = true) (hN : X.N.Nodup) (hi : QF X tg iter ri) (ok : BlkOk X.N X.env.scope scope own)
    (hg : ∀ (s : Shared) (H : Hp) (C : Addr) (cl : List (Str × Addr)) (fp : List Addr), QG (X.blk s H scope (compEnvC scope cl C X.env) fp) tg sl t) (ht : ∀ (s : Shared) (H : Hp) (C : Addr) (cl : List (Str × Addr)) (fp : List Addr), QTs (X.blk s H scope (compEnvC scope cl C X.env) fp) ifs c)
    (he : ∀ (s : Shared) (H : Hp) (C : Addr) (cl : List (Str × Addr)) (fp : List Addr), QV (X.blk s H scope (compEnvC scope cl C X.env) fp) elt re) (hsl : ∀ j ∈ sl, j ∈ own.map (·.2) := by decide) (hs : ∀ x, foldedSetIterable iter X.env x = pure x := by intro _; rfl) :
    QE X (.ListComp elt [⟨tg, iter, ifs, 0⟩] scope pos) (rLc ri t c re (own.map (·.2))) := by
  let s0 : Shared := X.s_0
  obtain ⟨m, wi, hpi, f⟩ := pe_qlc hc hN hi ok hsl hg ht he (hg s0 X.H_0 0 [] []).mono (ht s0 X.H_0 0 [] []).mono (he s0 X.H_0 0 [] []).mono
  exact ⟨m, pe_imp (pe_lc hc hN hpi ok (g := liftG X.K sl t) (fun s H C cl fp => (hg s H C cl fp).run) (tt := liftT X.K c) (fun s H C cl fp => (ht s H C cl fp).run) (te := liftV X.K re) (fun s H C cl fp => (he s H C cl fp).run) hs) f⟩
theorem qe_lcT {elts : List Expr} {kk : Nat} {tpos : Pos} {ri : RFT} {ts : RGs} (n : Nat) (hc : X.calm = true) (hN : X.N.Nodup) (hi : QFT X (.Tuple elts kk tpos) iter ri) (ok : BlkOk X.N X.env.scope scope own)
    (hg : ∀ (s : Shared) (H : Hp) (C : Addr) (cl : List (Str × Addr)) (fp : List Addr), QGs (X.blk s H scope (compEnvC scope cl C X.env) fp) elts sl ts) (ht : ∀ (s : Shared) (H : Hp) (C : Addr) (cl : List (Str × Addr)) (fp : List Addr), QTs (X.blk s H scope (compEnvC scope cl C X.env) fp) ifs c)
    (he : ∀ (s : Shared) (H : Hp) (C : Addr) (cl : List (Str × Addr)) (fp : List Addr), QV (X.blk s H scope (compEnvC scope cl C X.env) fp) elt re) (hsl : ∀ j ∈ sl, j ∈ own.map (·.2) := by decide)
    (hn : ∀ (s : Shared) (H : Hp) (C : Addr) (cl : List (Str × Addr)) (fp : List Addr), (assignEach elts (X.blk s H scope (compEnvC scope cl C X.env) fp).env).length = n := by intro _ _ _ _ _; rfl) (hst : ∀ (s : Shared) (H : Hp) (C : Addr) (cl : List (Str × Addr)) (fp : List Addr), (assignEach elts (X.blk s H scope (compEnvC scope cl C X.env) fp).env).findIdx? (·.1) = none := by intro _ _ _ _ _; rfl)
    (hs : ∀ x, foldedSetIterable iter X.env x = pure x := by intro _; rfl) :
    QE X (.ListComp elt [⟨.Tuple elts kk tpos, iter, ifs, 0⟩] scope pos) (rLcT ri n ts c re (own.map (·.2))) := by
  let s0 : Shared := X.s_0
  obtain ⟨m, wi, hpi, f⟩ := pe_qlcT n hc hN hi ok hsl (hg s0 X.H_0 0 [] []).mono (ht s0 X.H_0 0 [] []).mono (he s0 X.H_0 0 [] []).mono
  exact ⟨m, pe_imp (pe_lc hc hN hpi ok (g := gTup X.K n (liftGs X.K sl ts)) (fun s H C cl fp => pg_tup (X := X.blk s H scope (compEnvC scope cl C X.env) fp) hc (hg s H C cl fp).run (hn s H C cl fp) (hst s H C cl fp)) (tt := liftT X.K c) (fun s H C cl fp => (ht s H C cl fp).run) (te := liftV X.K re) (fun s H C cl fp => (he s H C cl fp).run) hs) f⟩
/-- y = [..] -/
theorem qs_setLc {kp : List Nat} (i : Nat) {y : Str} {py spos : Pos} {ri : RF} {t : RG} (hc : X.calm = true) (hN : X.N.Nodup) (hi : QF X tg iter ri) (ok : BlkOk X.N X.env.scope scope own)
    (hg : ∀ (s : Shared) (H : Hp) (C : Addr) (cl : List (Str × Addr)) (fp : List Addr), QG (X.blk s H scope (compEnvC scope cl C X.env) fp) tg sl t) (ht : ∀ (s : Shared) (H : Hp) (C : Addr) (cl : List (Str × Addr)) (fp : List Addr), QTs (X.blk s H scope (compEnvC scope cl C X.env) fp) ifs c)
    (he : ∀ (s : Shared) (H : Hp) (C : Addr) (cl : List (Str × Addr)) (fp : List Addr), QV (X.blk s H scope (compEnvC scope cl C X.env) fp) elt re) (hk : i ∉ kp := by decide) (hsl : ∀ j ∈ sl, j ∈ own.map (·.2) := by decide) (hy : X.N[i]? = some y := by rfl) (hyl : X.env.scope.names.lookup y = some .local := by rfl)
    (hsw : swapsWith (.ListComp elt [⟨tg, iter, ifs, 0⟩] scope pos) (some (.Name y py)) spos.line X.env = pure true := by exact sw_true rfl rfl rfl (by decide +kernel)) (hs : ∀ x, foldedSetIterable iter X.env x = pure x := by intro _; rfl) :
    QS X kp (.Assign [.Name y py] (.ListComp elt [⟨tg, iter, ifs, 0⟩] scope pos) spos) (rSet i (rLc ri t c re (own.map (·.2)))) := by
  let s0 : Shared := X.s_0
  obtain ⟨m, wi, hpi, f⟩ := pe_qlc hc hN hi ok hsl hg ht he (hg s0 X.H_0 0 [] []).mono (ht s0 X.H_0 0 [] []).mono (he s0 X.H_0 0 [] []).mono
  refine ⟨fun A B env l q => m _ _ _ (fun o e z => l.1 _ z) q, ps_imp (ps_setLc hc hN hy hyl hsw hpi ok (g := liftG X.K sl t) (fun s H C cl fp => (hg s H C cl fp).run) (tt := liftT X.K c) (fun s H C cl fp => (ht s H C cl fp).run) (te := liftV X.K re) (fun s H C cl fp => (he s H C cl fp).run) hs) ?_⟩
  intro E σ H ⟨env, G, F, rep, q⟩
  exact f σ H _ (liftO_of m rep q fun o e v G' H' z s r => z _ G' H' s (keepS_set hk) (r.put i))
theorem qs_setLcT {kp : List Nat} (i : Nat) {y : Str} {py spos : Pos} {elts : List Expr} {kk : Nat} {tpos : Pos} {ri : RFT} {ts : RGs} (n : Nat) (hc : X.calm = true) (hN : X.N.Nodup) (hi : QFT X (.Tuple elts kk tpos) iter ri) (ok : BlkOk X.N X.env.scope scope own)
    (hg : ∀ (s : Shared) (H : Hp) (C : Addr) (cl : List (Str × Addr)) (fp : List Addr), QGs (X.blk s H scope (compEnvC scope cl C X.env) fp) elts sl ts) (ht : ∀ (s : Shared) (H : Hp) (C : Addr) (cl : List (Str × Addr)) (fp : List Addr), QTs (X.blk s H scope (compEnvC scope cl C X.env) fp) ifs c)
    (he : ∀ (s : Shared) (H : Hp) (C : Addr) (cl : List (Str × Addr)) (fp : List Addr), QV (X.blk s H scope (compEnvC scope cl C X.env) fp) elt re) (hk : i ∉ kp := by decide) (hsl : ∀ j ∈ sl, j ∈ own.map (·.2) := by decide) (hy : X.N[i]? = some y := by rfl) (hyl : X.env.scope.names.lookup y = some .local := by rfl)
    (hn : ∀ (s : Shared) (H : Hp) (C : Addr) (cl : List (Str × Addr)) (fp : List Addr), (assignEach elts (X.blk s H scope (compEnvC scope cl C X.env) fp).env).length = n := by intro _ _ _ _ _; rfl) (hst : ∀ (s : Shared) (H : Hp) (C : Addr) (cl : List (Str × Addr)) (fp : List Addr), (assignEach elts (X.blk s H scope (compEnvC scope cl C X.env) fp).env).findIdx? (·.1) = none := by intro _ _ _ _ _; rfl)
    (hsw : swapsWith (.ListComp elt [⟨.Tuple elts kk tpos, iter, ifs, 0⟩] scope pos) (some (.Name y py)) spos.line X.env = pure true := by exact sw_true rfl rfl rfl (by decide +kernel)) (hs : ∀ x, foldedSetIterable iter X.env x = pure x := by intro _; rfl) :
    QS X kp (.Assign [.Name y py] (.ListComp elt [⟨.Tuple elts kk tpos, iter, ifs, 0⟩] scope pos) spos) (rSet i (rLcT ri n ts c re (own.map (·.2)))) := by
  let s0 : Shared := X.s_0
  obtain ⟨m, wi, hpi, f⟩ := pe_qlcT n hc hN hi ok hsl (hg s0 X.H_0 0 [] []).mono (ht s0 X.H_0 0 [] []).mono (he s0 X.H_0 0 [] []).mono
  refine ⟨fun A B env l q => m _ _ _ (fun o e z => l.1 _ z) q, ps_imp (ps_setLc hc hN hy hyl hsw hpi ok (g := gTup X.K n (liftGs X.K sl ts)) (fun s H C cl fp => pg_tup (X := X.blk s H scope (compEnvC scope cl C X.env) fp) hc (hg s H C cl fp).run (hn s H C cl fp) (hst s H C cl fp)) (tt := liftT X.K c) (fun s H C cl fp => (ht s H C cl fp).run) (te := liftV X.K re) (fun s H C cl fp => (he s H C cl fp).run) hs) ?_⟩
  intro E σ H ⟨env, G, F, rep, q⟩
  exact f σ H _ (liftO_of m rep q fun o e v G' H' z s r => z _ G' H' s (keepS_set hk) (r.put i))
end
end Pf
set_option Elab.async false
set_option linter.all false
set_option maxRecDepth 100000
set_option maxHeartbeats 4000000
/-! Pf: what the defs of a text share: short names of readings, the module's names. -/
namespace Pf
open PySem PySem.Spec PyProof.Rows L2
abbrev bLt : B2 := dOrd fun i j => decide (i < j)
abbrev bLe : B2 := dOrd fun i j => decide (i ≤ j)
abbrev bGt : B2 := dOrd fun i j => decide (j < i)
abbrev bGe : B2 := dOrd fun i j => decide (j ≤ i)
abbrev bSub : F2 := dI0 fun i j => i - j
abbrev bFdiv : F2 := dI CDivA Int.fdiv
abbrev bMod : F2 := dI (fun _ j => j ≠ 0) Int.fmod
abbrev bPow : F2 := dI CPowA fun i j => i ^ j.toNat
abbrev bShl : F2 := dI CShl fun i j => i * 2 ^ j.toNat
abbrev bShr : F2 := dI (fun _ j => 0 ≤ j) fun i j => i / 2 ^ j.toNat
abbrev bBand : F2 := dI0 Builtin.bitAnd
abbrev fAbs : FN := fI1 (fun _ => True) fun i => if i < 0 then -i else i
abbrev fMaxL : FN := fExt fun y m => y ≤ m
abbrev fAny : FN := fBools fun bs => bs.any id
abbrev fAll : FN := fBools fun bs => bs.all id
/-- a module's constant that is data -/
def GlobD (K : Fg) (mg : Str → Option Value) (x : Str) (y : D) : Prop := ∃ v u, mg x = some u ∧ RelV v u ∧ Rp K (fun _ => none) v y
theorem qv_globD {X : Cx} {x : Str} {y : D} {pos : Pos} (h : GlobD X.K X.mg x y) (hg : Gl X x := by rfl) (hd : (x == ("__debug__" : Str)) = false := by decide) : QV X (.Name x pos) (rC y) := by
  obtain ⟨v, u, h1, h2, h3⟩ := h
  exact qv_glob h1 h2 h3 hg hd
theorem isTrue_call (f : Expr) (es : List Expr) (ks : List Keyword) (p : Pos) (env : PySem.Env) (whole : Sem Value) : PySem.isTrue (.Call f es ks p) env whole = (do let v ← whole; standAt (Expr.Call f es ks p).pos; holding [v] (truthy v)) := by
  first | rfl | (rw [PySem.isTrue]; all_goals intros; contradiction)
theorem qt_call {X : Cx} {f : Expr} {es : List Expr} {ks : List Keyword} {p : Pos} {r : RV} (h : QV X (.Call f es ks p) r) : QT X (.Call f es ks p) (rTb r) := qt_val h fun _ => isTrue_call _ _ _ _ _ _
end Pf
set_option Elab.async false
set_option linter.all false
set_option maxRecDepth 100000
set_option maxHeartbeats 4000000
/-! Pf: extend, isinstance, index of a tuple, list(range(..)), xs[::-1]. -/
namespace Pf
open PySem PySem.Spec PyProof.Rows L2

/-! ### x.extend(e) -/
def rExtR : V → List V → Hp → VK → Prop := fun x vs H Q => ∃ l b xs zs, x = .ref l ∧ vs = [.ref b] ∧ H l = some (.lst xs) ∧ Rd H b (.lst zs) ∧ xs.length + zs.length ≤ sizeLine ∧ Q .non (upd H l (.lst (xs ++ zs)))
theorem mt_extendR {X : Cx} : MtM X "list.extend" rExtR := by
  intro pins s σ H x vs v us Q I rx rv ⟨l, b, xs, zs, ex, ev, hH, hB, hz, q⟩
  subst ex ev
  cases rx
  obtain ⟨u, rfl, ru⟩ := rv.one
  cases ru
  obtain ⟨_, A, n, ra, la, ea⟩ := I.lstM hH
  obtain ⟨_, B, m, rb, lb, eb⟩ := lstR I hB
  have small : A.toArray.size + B.toArray.size ≤ sizeLine := by
    rw [List.size_toArray, List.size_toArray, ← la, ← lb]
    exact hz
  have long : ¬ (!A.toArray.isEmpty && Builtin.List.listTooLong (A.toArray.size + B.toArray.size)) = true := fun z => by
    rw [notLongL small, Bool.and_false] at z
    cases z
  have sA : A.toArray.size ≤ sizeLine := by omega
  have step := AutoSeq1.list_extend_list_list_0 l A.toArray n b B.toArray m long sA (Nat.le_succ_of_le small)
  refine call_meets F.slot_list_extend ⟨_, ea, rfl⟩ F.entry_list_extend (F.args_list_extend_2 _ _) step ⟨ea, eb, .non, _, ?_, rfl, q⟩
  exact I.lset (its' := A ++ B) hH ea (by simp) (ra.append rb) (by rw [List.length_append]; exact hz)
def rExt (k : Nat) (re : RV) : RE := fun env Q => ownAt env k fun _ => re env fun y e => match y with
  | .list ys => ownAt e k fun xs => xs.length + ys.length ≤ sizeLine ∧ Q (.d .none) (e.set k (some (.own (xs ++ ys))))
  | _ => False
theorem qe_extend {X : Cx} (k : Nat) {x : Str} {a : Expr} {re : RV} {px apos cpos : Pos} (he : QV X a re) (hN : X.N[k]? = some x := by rfl) (hv : Vis X.env.scope x := by first | exact Or.inl rfl | exact Or.inr (Or.inl rfl) | exact Or.inr (Or.inr rfl)) (hd : (x == ("__debug__" : Str)) = false := by decide)
    (hcd : (x == ("__classdict__" : Str)) = false := by decide) (hbase : attributeBase (.Name x px) "extend" X.env (eval (.Name x px) X.env) = eval (.Name x px) X.env := by rfl)
    (hfew : ((backTo cpos (starEach [a] X.env)).all (fun x => !x.1) && (backToKw cpos (keywordEach [] X.env)).all (fun x => x.1.isSome) && decide (([a] : List Expr).length + ([] : List Keyword).length + (if ([] : List Keyword).isEmpty then 0 else 1) < 30)) = true := by rfl)
    (hline : (apos.endLine == cpos.line) = true := by rfl) (hs : starEach [a] X.env = (false, eval a X.env) :: starEach [] X.env := by rfl) (hplain : (backTo cpos (starEach [] X.env)).any (·.1) = false := by rfl) :
    QE X (.Call (.Attribute (.Name x px) "extend" apos) [a] [] cpos) (rExt k re) := by
  refine ⟨fun env Q Q' f q => q.mono fun xs z => he.mono _ _ _ (fun y e z => ?_) z, pe_imp (pe_bm PySem.F.plainAttrs_list PySem.F.slot_list_extend PySem.F.type_list_extend mt_extendR (pe_var hN hv hd hcd) (pa_cons he.run pa_nil hs) hbase hfew hline hs hplain) ?_⟩
  · split at z
    · exact z.mono fun xs z => ⟨z.1, f _ _ z.2⟩
    · exact z
  intro σ H Q ⟨env, G, F, rep, q⟩
  obtain ⟨xs, g1, h1⟩ := q.get
  obtain ⟨p, vs, g2, g3, g4, _⟩ := rep.mut g1
  refine ⟨.ref p, g2, ty_list g3, ?_⟩
  refine liftV_of he.mono rep h1 fun y e v G1 H1 h1 s1 rep1 d1 => ?_
  split at h1
  · cases d1 with
    | lst gz dz =>
      obtain ⟨ys, g5, h2, h3⟩ := h1.get
      obtain ⟨p', ws, g6, g7, g8, g9⟩ := rep1.mut g5
      rw [g2] at g6
      cases g6
      exact ⟨p, _, ws, _, rfl, rfl, g7, rd_mono rep1.gh gz, by rw [rps_len g8, rps_len dz]; exact h2, h3 .non G1 _ s1 (.of (g9 _ _ (rps_append g8 dz)) .non)⟩
  · exact h1.elim

/-! ### isinstance(x, T) -/
def tyN : D → String
  | .none => "NoneType"
  | .bool _ => "bool"
  | .int _ => "int"
  | .str _ => "str"
  | .list _ => "list"
  | .tuple _ => "tuple"
  | .dict _ => "dict"
def isInt : D → Bool
  | .int _ => true
  | .bool _ => true
  | _ => false
def isBool : D → Bool
  | .bool _ => true
  | _ => false
def isStr : D → Bool
  | .str _ => true
  | _ => false
def isTuple : D → Bool
  | .tuple _ => true
  | _ => false
def isList : D → Bool
  | .list _ => true
  | _ => false
theorem pk_ty {K : Fg} {G H : Hp} {v : V} {x : D} (h : Pk K G H v x) (s : Same G H) : TyX K H v (.type (tyN x)) := by
  rcases h with h | ⟨p, vs, xs, rfl, rfl, h1, _⟩
  · cases h with
    | non => exact .base .non
    | bl b => exact .base (.bl b)
    | int i => exact .base (.int i)
    | str z => exact .base (.str z)
    | lst g _ =>
      rcases rd_mono s g with g | ⟨o, g⟩
      · exact .base (.lst g)
      · exact .base (.frz g)
    | tup g _ =>
      rcases tq_mono s g with ⟨o, g, _⟩ | ⟨o, its, n, g1, g2, _⟩
      · exact .fTuple g
      · exact .kTuple g1 g2
  · exact .base (.lst h1)
def rIsi (f : D → Bool) (ra : RP) : RV := fun env Q => ra env fun a e => dref e a fun x => Q (.bool (f x)) e
theorem qv_isi {X : Cx} {T : String} {f : D → Bool} {c : Str} {a : Expr} {ra : RP} {p p2 pos : Pos} (hk : ∀ x : D, kitB (tyN x) T = some (f x)) (hv : bootBuiltins c = some (.type T)) (hm : X.mg "isinstance" = none) (hm2 : X.mg c = none) (ha : QP X a ra)
    (hg : Gl X "isinstance" := by rfl) (hg2 : Gl X c := by rfl) (hd : (c == ("__debug__" : Str)) = false := by decide) (hn : c ≠ "__name__" := by decide) (he : starEach [a, .Name c p2] X.env = (false, eval a X.env) :: starEach [.Name c p2] X.env := by rfl)
    (he2 : starEach [.Name c p2] X.env = (false, eval (.Name c p2) X.env) :: starEach [] X.env := by rfl) (hpl : (backTo pos (starEach [.Name c p2] X.env)).any (·.1) = false := by rfl) : QV X (.Call (.Name "isinstance" p) [a, .Name c p2] [] pos) (rIsi f ra) := by
  have hc : PE X (.Name c p2) (tC (.ty T)) := pe_bltn hg2 hm2 hv rfl hn hd
  refine ⟨fun env Q Q' g q => ha.mono _ _ _ (fun x e z => dref.mono (fun x => g _ e) z) q, pe_imp (pe_callB call_isi hg hm (by decide +kernel) (pa_cons ha.run (pa_cons hc pa_nil he2) he) (by decide) (by decide) he hpl) ?_⟩
  intro σ H Q ⟨env, G, F, rep, q⟩
  refine liftP_of ha.mono rep q fun x e v G1 H1 h1 s1 rep1 d1 => ?_
  obtain ⟨y, p1, h2⟩ := dref_pk rep1 d1 h1
  exact ⟨v, .ty T, .type (tyN y), .type T, f y, rfl, .ty T, pk_ty p1 rep1.gh, kit_ty (hk y), h2 _ G1 H1 s1 rep1 (.bl _)⟩
theorem kit_all {T : String} {f : D → Bool} (a0 : kitB "NoneType" T = some (f .none)) (a1 : ∀ b, kitB "bool" T = some (f (.bool b))) (a2 : ∀ b, kitB "int" T = some (f (.int b))) (a3 : ∀ b, kitB "str" T = some (f (.str b))) (a4 : ∀ b, kitB "list" T = some (f (.list b))) (a5 : ∀ b, kitB "tuple" T = some (f (.tuple b)))
    (a6 : ∀ b, kitB "dict" T = some (f (.dict b))) (x : D) : kitB (tyN x) T = some (f x) := by
  cases x
  · exact a0
  · exact a1 _
  · exact a2 _
  · exact a3 _
  · exact a4 _
  · exact a5 _
  · exact a6 _
theorem kit_int (x : D) : kitB (tyN x) "int" = some (isInt x) := kit_all
  (show kitB "NoneType" "int" = some false from by decide +kernel)
  (fun _ => (show kitB "bool" "int" = some true from by decide +kernel))
  (fun _ => (show kitB "int" "int" = some true from by decide +kernel))
  (fun _ => (show kitB "str" "int" = some false from by decide +kernel))
  (fun _ => (show kitB "list" "int" = some false from by decide +kernel))
  (fun _ => (show kitB "tuple" "int" = some false from by decide +kernel))
  (fun _ => (show kitB "dict" "int" = some false from by decide +kernel)) x
theorem kit_bool (x : D) : kitB (tyN x) "bool" = some (isBool x) := kit_all
  (show kitB "NoneType" "bool" = some false from by decide +kernel)
  (fun _ => (show kitB "bool" "bool" = some true from by decide +kernel))
  (fun _ => (show kitB "int" "bool" = some false from by decide +kernel))
  (fun _ => (show kitB "str" "bool" = some false from by decide +kernel))
  (fun _ => (show kitB "list" "bool" = some false from by decide +kernel))
  (fun _ => (show kitB "tuple" "bool" = some false from by decide +kernel))
  (fun _ => (show kitB "dict" "bool" = some false from by decide +kernel)) x
theorem kit_str (x : D) : kitB (tyN x) "str" = some (isStr x) := kit_all
  (show kitB "NoneType" "str" = some false from by decide +kernel)
  (fun _ => (show kitB "bool" "str" = some false from by decide +kernel))
  (fun _ => (show kitB "int" "str" = some false from by decide +kernel))
  (fun _ => (show kitB "str" "str" = some true from by decide +kernel))
  (fun _ => (show kitB "list" "str" = some false from by decide +kernel))
  (fun _ => (show kitB "tuple" "str" = some false from by decide +kernel))
  (fun _ => (show kitB "dict" "str" = some false from by decide +kernel)) x
theorem kit_tuple (x : D) : kitB (tyN x) "tuple" = some (isTuple x) := kit_all
  (show kitB "NoneType" "tuple" = some false from by decide +kernel)
  (fun _ => (show kitB "bool" "tuple" = some false from by decide +kernel))
  (fun _ => (show kitB "int" "tuple" = some false from by decide +kernel))
  (fun _ => (show kitB "str" "tuple" = some false from by decide +kernel))
  (fun _ => (show kitB "list" "tuple" = some false from by decide +kernel))
  (fun _ => (show kitB "tuple" "tuple" = some true from by decide +kernel))
  (fun _ => (show kitB "dict" "tuple" = some false from by decide +kernel)) x
theorem kit_list (x : D) : kitB (tyN x) "list" = some (isList x) := kit_all
  (show kitB "NoneType" "list" = some false from by decide +kernel)
  (fun _ => (show kitB "bool" "list" = some false from by decide +kernel))
  (fun _ => (show kitB "int" "list" = some false from by decide +kernel))
  (fun _ => (show kitB "str" "list" = some false from by decide +kernel))
  (fun _ => (show kitB "list" "list" = some true from by decide +kernel))
  (fun _ => (show kitB "tuple" "list" = some false from by decide +kernel))
  (fun _ => (show kitB "dict" "list" = some false from by decide +kernel)) x

section
variable {X : Cx} {a : Expr} {ra : RP} {p p2 pos : Pos}
theorem qv_isi_int (hm : X.mg "isinstance" = none) (hm2 : X.mg "int" = none) (ha : QP X a ra) (hg : Gl X "isinstance" := by rfl) (hg2 : Gl X "int" := by rfl) (he : starEach [a, .Name "int" p2] X.env = (false, eval a X.env) :: starEach [.Name "int" p2] X.env := by rfl)
    (he2 : starEach [.Name "int" p2] X.env = (false, eval (.Name "int" p2) X.env) :: starEach [] X.env := by rfl) (hpl : (backTo pos (starEach [.Name "int" p2] X.env)).any (·.1) = false := by rfl) :
    QV X (.Call (.Name "isinstance" p) [a, .Name "int" p2] [] pos) (rIsi isInt ra) := qv_isi kit_int (by decide +kernel) hm hm2 ha hg hg2 (by decide) (by decide) he he2 hpl
theorem qv_isi_bool (hm : X.mg "isinstance" = none) (hm2 : X.mg "bool" = none) (ha : QP X a ra) (hg : Gl X "isinstance" := by rfl) (hg2 : Gl X "bool" := by rfl) (he : starEach [a, .Name "bool" p2] X.env = (false, eval a X.env) :: starEach [.Name "bool" p2] X.env := by rfl)
    (he2 : starEach [.Name "bool" p2] X.env = (false, eval (.Name "bool" p2) X.env) :: starEach [] X.env := by rfl) (hpl : (backTo pos (starEach [.Name "bool" p2] X.env)).any (·.1) = false := by rfl) :
    QV X (.Call (.Name "isinstance" p) [a, .Name "bool" p2] [] pos) (rIsi isBool ra) := qv_isi kit_bool (by decide +kernel) hm hm2 ha hg hg2 (by decide) (by decide) he he2 hpl
theorem qv_isi_str (hm : X.mg "isinstance" = none) (hm2 : X.mg "str" = none) (ha : QP X a ra) (hg : Gl X "isinstance" := by rfl) (hg2 : Gl X "str" := by rfl) (he : starEach [a, .Name "str" p2] X.env = (false, eval a X.env) :: starEach [.Name "str" p2] X.env := by rfl)
    (he2 : starEach [.Name "str" p2] X.env = (false, eval (.Name "str" p2) X.env) :: starEach [] X.env := by rfl) (hpl : (backTo pos (starEach [.Name "str" p2] X.env)).any (·.1) = false := by rfl) :
    QV X (.Call (.Name "isinstance" p) [a, .Name "str" p2] [] pos) (rIsi isStr ra) := qv_isi kit_str (by decide +kernel) hm hm2 ha hg hg2 (by decide) (by decide) he he2 hpl
theorem qv_isi_tuple (hm : X.mg "isinstance" = none) (hm2 : X.mg "tuple" = none) (ha : QP X a ra) (hg : Gl X "isinstance" := by rfl) (hg2 : Gl X "tuple" := by rfl) (he : starEach [a, .Name "tuple" p2] X.env = (false, eval a X.env) :: starEach [.Name "tuple" p2] X.env := by rfl)
    (he2 : starEach [.Name "tuple" p2] X.env = (false, eval (.Name "tuple" p2) X.env) :: starEach [] X.env := by rfl) (hpl : (backTo pos (starEach [.Name "tuple" p2] X.env)).any (·.1) = false := by rfl) :
    QV X (.Call (.Name "isinstance" p) [a, .Name "tuple" p2] [] pos) (rIsi isTuple ra) := qv_isi kit_tuple (by decide +kernel) hm hm2 ha hg hg2 (by decide) (by decide) he he2 hpl
theorem qv_isi_list (hm : X.mg "isinstance" = none) (hm2 : X.mg "list" = none) (ha : QP X a ra) (hg : Gl X "isinstance" := by rfl) (hg2 : Gl X "list" := by rfl) (he : starEach [a, .Name "list" p2] X.env = (false, eval a X.env) :: starEach [.Name "list" p2] X.env := by rfl)
    (he2 : starEach [.Name "list" p2] X.env = (false, eval (.Name "list" p2) X.env) :: starEach [] X.env := by rfl) (hpl : (backTo pos (starEach [.Name "list" p2] X.env)).any (·.1) = false := by rfl) :
    QV X (.Call (.Name "isinstance" p) [a, .Name "list" p2] [] pos) (rIsi isList ra) := qv_isi kit_list (by decide +kernel) hm hm2 ha hg hg2 (by decide) (by decide) he he2 hpl
end

/-! ### t.index(x), texts -/
def rIndex (ra re : RV) : RV := fun env Q => ra env fun t e => match t with
  | .tuple ts => re e fun y e1 => match y with
    | .str z => ∃ ys j, strsOf ts = some ys ∧ ys[j]? = some z ∧ (∀ m, m < j → ys[m]? ≠ some z) ∧ Q (.int (j : Nat)) e1
    | _ => False
  | _ => False
theorem qv_index {X : Cx} {o a : Expr} {ra re : RV} {apos cpos : Pos} (ho : QV X o ra) (he : QV X a re) (hbase : attributeBase o "index" X.env (eval o X.env) = eval o X.env := by rfl)
    (hfew : ((backTo cpos (starEach [a] X.env)).all (fun x => !x.1) && (backToKw cpos (keywordEach [] X.env)).all (fun x => x.1.isSome) && decide (([a] : List Expr).length + ([] : List Keyword).length + (if ([] : List Keyword).isEmpty then 0 else 1) < 30)) = true := by rfl)
    (hline : (apos.endLine == cpos.line) = true := by rfl) (hs : starEach [a] X.env = (false, eval a X.env) :: starEach [] X.env := by rfl) (hplain : (backTo cpos (starEach [] X.env)).any (·.1) = false := by rfl) :
    QV X (.Call (.Attribute o "index" apos) [a] [] cpos) (rIndex ra re) := by
  refine ⟨fun env Q Q' f q => ho.mono _ _ _ (fun t e z => ?_) q, pe_imp (pe_tm (te := liftV X.K re) PySem.F.slot_tuple_index PySem.F.type_tuple_index mt_tup_index ho.run (pa_cons he.run pa_nil hs) hbase hfew hline hs hplain) ?_⟩
  · split at z
    · refine he.mono _ _ _ (fun y e z => ?_) z
      split at z
      · obtain ⟨ys, j, a, b, c, z⟩ := z
        exact ⟨ys, j, a, b, c, f _ _ z⟩
      · exact z
    · exact z
  intro σ H Q ⟨env, G, F, rep, q⟩
  refine liftV_of ho.mono rep q fun t e v G1 H1 h1 s1 rep1 d1 => ?_
  split at h1
  · rename_i ts
    cases d1 with
    | tup g d =>
      refine ⟨⟨_, _, rfl, tq_mono rep1.gh g⟩, ?_⟩
      refine liftV_of he.mono rep1 h1 fun y e2 u G2 H2 h2 s2 rep2 d2 => ?_
      split at h2
      · obtain ⟨ys, j, e1, e3, e4, h3⟩ := h2
        cases d2
        have e5 := rps_strsOf d e1
        subst e5
        exact ⟨_, ys, _, j, rfl, rfl, (tq_mono (s2.trans rep2.gh) g).sq, e3, e4, h3 _ G2 H2 (s1.trans s2) rep2 (.int _)⟩
      · exact h2.elim
  · exact h1.elim

/-! ### list(range(n)) -/
def rListRg (r : RV) : RE := fun env Q => r env fun x e => match x with
  | .int n => 0 ≤ n ∧ n ≤ 16777216 ∧ Q (.own (rngD 0 n)) e
  | _ => False
theorem rps_rg {K : Fg} {G : Hp} (a b : Int) : RpAll K G (rgV a b) (rngD a b) := by
  unfold rgV rngD
  generalize List.range (b - a).toNat = l
  induction l with
  | nil => exact .nil
  | cons x l ih => exact .cons (.int _) ih
theorem qe_listrg {X : Cx} {a : Expr} {r : RV} {p p2 q pos : Pos} (hc : X.calm = true) (hm : X.mg "list" = none) (hm2 : X.mg "range" = none) (h : QV X a r) (hg : Gl X "list" := by rfl) (hg2 : Gl X "range" := by rfl) (na : starEach [a] X.env = (false, eval a X.env) :: starEach [] X.env := by rfl)
    (nb : starEach [.Call (.Name "range" p2) [a] [] q] X.env = (false, eval (.Call (.Name "range" p2) [a] [] q) X.env) :: starEach [] X.env := by rfl) : QE X (.Call (.Name "list" p) [.Call (.Name "range" p2) [a] [] q] [] pos) (rListRg r) := by
  refine ⟨fun env Q Q' f q => h.mono _ _ _ (fun x e z => ?_) q, pe_imp (pe_listRg hc hg hm (prg_1 hg2 hm2 h.run na) nb) ?_⟩
  · split at z
    · exact ⟨z.1, z.2.1, f _ _ z.2.2⟩
    · exact z
  intro σ H Q ⟨env, G, F, rep, q⟩
  refine liftV_of h.mono rep q fun x e v G1 H1 h1 s1 rep1 d1 => ?_
  split at h1
  · cases d1
    exact ⟨_, rfl, RgOk.of_le (by omega) h1.2.1 (by omega) h1.1, fun q hq => h1.2.2 _ G1 _ s1 (rep1.lst hq (rps_rg _ _))⟩
  · exact h1.elim

/-! ### xs[::-1] -/
def rRev (r : RP) : RE := fun env Q => r env fun a e => dref e a fun x => match x with
  | .list xs => Q (.own xs.reverse) e
  | _ => False
theorem qe_rev {X : Cx} {a : Expr} {r : RP} {k : Nat} {p1 p2 p3 pos : Pos} (h : QP X a r) : QE X (.Subscript a (.Slice none none (some (.UnaryOp .USub (.Constant (.int 1) k p1) p2)) p3) pos) (rRev r) := by
  refine ⟨fun env Q Q' f q => h.mono _ _ _ (fun x e z => dref.mono (fun y z => ?_) z) q, pe_imp (pe_revL h.run) ?_⟩
  · split at z
    · exact f _ _ z
    · exact z
  intro σ H Q ⟨env, G, F, rep, q⟩
  refine liftP_of h.mono rep q fun x e v G1 H1 h1 s1 rep1 d1 => ?_
  obtain ⟨y, p1, h2⟩ := dref_pk rep1 d1 h1
  split at h2
  · obtain ⟨p, vs, rfl, g1, d2⟩ := p1.lst rep1.gh
    exact ⟨p, vs, rfl, .inl g1, fun q hq => h2 _ G1 _ s1 (rep1.lst hq (rps_rev d2))⟩
  · exact h2.elim
end Pf
set_option Elab.async false
set_option linter.all false
set_option maxRecDepth 100000
set_option maxHeartbeats 4000000
/-! Pf: the law's own pool: a list of a list of great numbers, of what is left of one, of the brew. -/
namespace Pf
open PySem PySem.Spec PyProof.Rows L2

def poolOk (g : List Int) (c b : Int) (H : Hp) (v : V) (fp : List Addr) : Prop := ∃ p q, v = .ref p ∧ fp = [p, q] ∧ p ≠ q ∧ H p = some (.lst [.ref q, .int c, .int b]) ∧ H q = some (.lst (g.map V.int))
def poolR (g : List Int) (c b : Int) : Res where
  ok := poolOk g c b
  loc := fun ⟨p, q, a1, a2, a3, a4, a5⟩ e => by
    subst a2
    exact ⟨p, q, a1, rfl, a3, by rw [e p (by simp)]; exact a4, by rw [e q (by simp)]; exact a5⟩
  dom := fun ⟨p, q, a1, a2, a3, a4, a5⟩ a m => by
    subst a2
    rcases List.mem_cons.mp m with m | m
    · rw [m, a4]
      exact fun z => nomatch z
    · rw [List.mem_singleton.mp m, a5]
      exact fun z => nomatch z
  nd := fun ⟨p, q, a1, a2, a3, a4, a5⟩ => by
    subst a2
    simp [a3]
section
variable {K : Fg} {G F H : Hp} {σ : L2.St} {env : Env}
theorem Rep.pool {g : List Int} {c b : Int} {k : Nat} (r : Rep K G F H σ env) (h : env[k]? = some (some (.res (poolR g c b)))) : ∃ p q, σ[k]? = some (some (.ref p)) ∧ p ≠ q ∧ H p = some (.lst [.ref q, .int c, .int b]) ∧ H q = some (.lst (g.map V.int)) ∧
    ∀ H' g' c' b', (∀ a, a ≠ p → a ≠ q → H' a = H a) → H' p = some (.lst [.ref q, .int c', .int b']) → H' q = some (.lst (g'.map V.int)) → Rep K G F H' σ (env.set k (some (.res (poolR g' c' b')))) := by
  obtain ⟨fp, s, w⟩ := r
  obtain ⟨fa, f1, fb, x, e1, e2, ⟨v, ex, p, q, e4, e5, ne, hp, hq⟩, gg⟩ := s.split h
  subst e1 ex e4 e5
  refine ⟨p, q, e2, ne, hp, hq, fun H' g' c' b' out hp' hq' => ?_⟩
  have mp : p ∈ fa ++ ([p, q] ++ fb) := by simp
  have mq : q ∈ fa ++ ([p, q] ++ fb) := by simp
  have nd := List.nodup_append.mp w.nd
  have nd2 := List.nodup_append.mp nd.2.1
  have hn : ∀ a ∈ fa ++ fb, a ≠ p ∧ a ≠ q := fun a m => by
    rcases List.mem_append.mp m with m | m
    · exact ⟨fun z => nd.2.2 a m p (by simp) z, fun z => nd.2.2 a m q (by simp) z⟩
    · exact ⟨fun z => nd2.2.2 p (by simp) a m z.symm, fun z => nd2.2.2 q (by simp) a m z.symm⟩
  have s2 := gg G H' (some (.ref p)) (some (.res (poolR g' c' b'))) [p, q] idS (fun a m => out a (hn a m).1 (hn a m).2) ⟨_, rfl, p, q, rfl, rfl, ne, hp', hq'⟩
  rw [set_self e2] at s2
  have keep : ∀ (B : Hp), B p = none → B q = none → Same B H → Same B H' := fun B b1 b2 s a o e => by
    rw [out a (fun z => by rw [z, b1] at e; cases e) (fun z => by rw [z, b2] at e; cases e)]
    exact s a o e
  exact ⟨_, s2, keep G (w.pg p mp) (w.pg q mq) w.gh, keep F (w.pf p mp) (w.pf q mq) w.fh, w.gf, w.nd, w.pg, w.pf⟩
/-- a value of one's own set aside among what others hold -/
theorem RepV.hold {v : V} {xs : List D} (r : RepV K G F H σ env v (.own xs)) : ∃ p vs, v = .ref p ∧ F p = none ∧ RpAll K G vs xs ∧ Rep K G (upd F p (.lst vs)) H σ env := by
  obtain ⟨fp, fpv, s, ⟨p, vs, rfl, rfl, hp, hd⟩, w⟩ := r
  have nd := w.nd
  rw [List.singleton_append, List.nodup_cons] at nd
  have hF : F p = none := w.pf p (by simp)
  have hG : G p = none := w.pg p (by simp)
  refine ⟨p, vs, rfl, hF, hd, fp, s, w.gh, same_updL w.fh hp, fun a e => ?_, nd.2, fun a m => w.pg a (List.mem_append_right _ m), fun a m => ?_⟩
  · rw [upd_ne (fun z => e (by rw [z]; exact hG))]
    exact w.gf a e
  · rw [upd_ne (fun z => nd.1 (by rw [← z]; exact m))]
    exact w.pf a (List.mem_append_right _ m)
/-- .. and laid into a new list, with two ints -/
theorem Rep.pooled {q p : Addr} {g : List Int} {c b : Int} (r : Rep K G (upd F q (.lst (g.map V.int))) H σ env) (hF : F q = none) (hp : H p = none) : RepV K G F (upd H p (.lst [.ref q, .int c, .int b])) σ env (.ref p) (.res (poolR g c b)) := by
  obtain ⟨fp, s, w⟩ := r
  have hq : H q = some (.lst (g.map V.int)) := w.fh q _ upd_same
  have ne : p ≠ q := fun z => by
    rw [z, hq] at hp
    cases hp
  have outp : ∀ a ∈ fp, a ≠ p := fun a m z => s.dom a m (by rw [z]; exact hp)
  have outq : ∀ a ∈ fp, a ≠ q := fun a m z => by
    have := w.pf a m
    rw [z, upd_same] at this
    cases this
  have gq : G q = none := none_of fun o e => by
    have := w.gf q (by rw [e]; exact fun z => nomatch z)
    rw [upd_same] at this
    cases this
  have gp : G p = none := same_none w.gh hp
  have fpn : F p = none := same_none (G := upd F q (.lst (g.map V.int))) w.fh hp |> fun z => by rw [upd_ne ne] at z; exact z
  refine ⟨fp, [p, q], s.mono idS fun a m => upd_ne (outp a m), ⟨p, q, rfl, rfl, ne, upd_same, by rw [upd_ne ne.symm]; exact hq⟩, fun a o e => ?_, fun a o e => ?_, fun a e => ?_, ?_, fun a m => ?_, fun a m => ?_⟩
  · rw [upd_ne (fun z => by rw [z, gp] at e; cases e)]
    exact w.gh a o e
  · rw [upd_ne (fun z => by rw [z, fpn] at e; cases e)]
    exact w.fh a o (by rw [upd_ne (fun z => by rw [z, hF] at e; cases e)]; exact e)
  · have := w.gf a e
    by_cases z : a = q
    · rw [z]; exact hF
    · rw [upd_ne z] at this
      exact this
  · show (p :: q :: fp).Nodup
    rw [List.nodup_cons, List.nodup_cons, List.mem_cons, not_or]
    exact ⟨⟨ne, fun m => outp p m rfl⟩, fun m => outq q m rfl, w.nd⟩
  · rcases List.mem_cons.mp m with m | m
    · rw [m]; exact gp
    · rcases List.mem_cons.mp m with m | m
      · rw [m]; exact gq
      · exact w.pg a m
  · rcases List.mem_cons.mp m with m | m
    · rw [m]; exact fpn
    · rcases List.mem_cons.mp m with m | m
      · rw [m]; exact hF
      · have := w.pf a m
        rw [upd_ne (outq a m)] at this
        exact this
end
/-- [great, cur, brew] -/
def rPool (ra : RE) (rb rc : RV) : RE := fun env Q => ra env fun o e => match o with
  | .own xs => ∃ g, intsOf xs = some g ∧ rb e fun x e => rc e fun y e => match x, y with
    | .int c, .int b => Q (.res (poolR g c b)) e
    | _, _ => False
  | _ => False
section
variable {X : Cx}
theorem qe_pool {a b c : Expr} {ra : RE} {rb rc : RV} {pos : Pos} (ha : QE X a ra) (hb : QV X b rb) (hc : QV X c rc) (h1 : starEach [a, b, c] X.env = (false, eval a X.env) :: starEach [b, c] X.env := by rfl) (h2 : starEach [b, c] X.env = (false, eval b X.env) :: starEach [c] X.env := by rfl)
    (h3 : starEach [c] X.env = (false, eval c X.env) :: starEach [] X.env := by rfl) : QE X (.List [a, b, c] pos) (rPool ra rb rc) := by
  refine ⟨fun env Q Q' f q => ha.mono _ _ _ (fun o e z => ?_) q, pe_imp (pe_lst (pa_cons ha.run (pa_cons hb.run (pa_cons hc.run pa_nil h3) h2) h1)) ?_⟩
  · split at z
    · obtain ⟨g, e1, z⟩ := z
      refine ⟨g, e1, hb.mono _ _ _ (fun x e z => hc.mono _ _ _ (fun y e z => ?_) z) z⟩
      split at z
      · exact f _ _ z
      · exact z
    · exact z
  intro σ H Q ⟨env, G, F, rep, q⟩
  refine liftO_of ha.mono rep q fun o e v G1 H1 h1 s1 rep1 => ?_
  split at h1
  · obtain ⟨g, e1, h1⟩ := h1
    obtain ⟨p, vs, rfl, hF, hd, rh⟩ := rep1.hold
    have ev := rps_intsOf hd e1
    subst ev
    refine liftV_of hb.mono rh h1 fun x e2 u G2 H2 h2 s2 rep2 d2 => ?_
    refine liftV_of hc.mono rep2 h2 fun y e3 w G3 H3 h3 s3 rep3 d3 => ?_
    split at h3
    · cases d2
      cases d3
      exact ⟨by show 3 ≤ sizeLine; rw [sizeLine_eq]; omega, fun l hl => h3 _ G3 _ ((s1.trans s2).trans s3) (rep3.pooled hF hl)⟩
    · exact h3.elim
  · exact h1.elim
end
/-- the pool in slot k -/
def poolAt (e : Env) (k : Nat) (f : List Int → Int → Int → Prop) : Prop := ∃ g c b, e[k]? = some (some (.res (poolR g c b))) ∧ f g c b
theorem poolAt.mono {e : Env} {k : Nat} {f f' : List Int → Int → Int → Prop} (m : ∀ g c b, f g c b → f' g c b) (h : poolAt e k f) : poolAt e k f' := let ⟨g, c, b, a, z⟩ := h; ⟨g, c, b, a, m _ _ _ z⟩
def rPool1 (k : Nat) : RV := fun env Q => poolAt env k fun g c b => Q (.int c) env
def rPool2 (k : Nat) : RV := fun env Q => poolAt env k fun g c b => Q (.int b) env
def rPoolLen (k : Nat) : RV := fun env Q => poolAt env k fun g c b => Q (.int g.length) env
def rPoolPop (k : Nat) : RE := fun env Q => poolAt env k fun g c b => ∃ g' x, g = g' ++ [x] ∧ Q (.d (.int x)) (env.set k (some (.res (poolR g' c b))))
def rPoolSet1 (k : Nat) (r : RV) : RS := fun E env => r env fun x e => match x with
  | .int c' => poolAt e k fun g c b => E.nx (e.set k (some (.res (poolR g c' b))))
  | _ => False
def rPoolSet2 (k : Nat) (r : RV) : RS := fun E env => r env fun x e => match x with
  | .int b' => poolAt e k fun g c b => E.nx (e.set k (some (.res (poolR g c b'))))
  | _ => False
section
variable {X : Cx} {x : Str} {j : Nat} {px p1 p2 p3 p4 pos : Pos}
theorem upd_out {H : Hp} {p a : Addr} {o : HO} (h : a ≠ p) : upd H p o a = H a := upd_ne h
theorem qv_pool1 (k : Nat) (hN : X.N[k]? = some x := by rfl) (hv : Vis X.env.scope x := by first | exact Or.inl rfl | exact Or.inr (Or.inl rfl) | exact Or.inr (Or.inr rfl)) (hd : (x == ("__debug__" : Str)) = false := by decide)
    (hcd : (x == ("__classdict__" : Str)) = false := by decide) : QV X (.Subscript (.Name x px) (.Constant (.int 1) j p1) pos) (rPool1 k) := by
  refine ⟨fun env Q Q' f q => poolAt.mono (fun g c b => f _ _) q, pe_imp (pe_ix ix_list (pe_var hN hv hd hcd) pe_int (fun _ _ => rfl)) ?_⟩
  intro σ H Q ⟨env, G, F, rep, g, c, b, e, q⟩
  obtain ⟨p, r, e1, ne, hp, hq, f⟩ := rep.pool e
  exact ⟨.ref p, e1, p, _, 1, .int c, rfl, rfl, .inl (.inl hp), rfl, q _ G H idS rep (.int _)⟩
theorem qv_pool2 (k : Nat) (hN : X.N[k]? = some x := by rfl) (hv : Vis X.env.scope x := by first | exact Or.inl rfl | exact Or.inr (Or.inl rfl) | exact Or.inr (Or.inr rfl)) (hd : (x == ("__debug__" : Str)) = false := by decide)
    (hcd : (x == ("__classdict__" : Str)) = false := by decide) : QV X (.Subscript (.Name x px) (.Constant (.int 2) j p1) pos) (rPool2 k) := by
  refine ⟨fun env Q Q' f q => poolAt.mono (fun g c b => f _ _) q, pe_imp (pe_ix ix_list (pe_var hN hv hd hcd) pe_int (fun _ _ => rfl)) ?_⟩
  intro σ H Q ⟨env, G, F, rep, g, c, b, e, q⟩
  obtain ⟨p, r, e1, ne, hp, hq, f⟩ := rep.pool e
  exact ⟨.ref p, e1, p, _, 2, .int b, rfl, rfl, .inl (.inl hp), rfl, q _ G H idS rep (.int _)⟩
theorem qv_poollen (k : Nat) (hm : X.mg "len" = none) (hN : X.N[k]? = some x := by rfl) (hv : Vis X.env.scope x := by first | exact Or.inl rfl | exact Or.inr (Or.inl rfl) | exact Or.inr (Or.inr rfl)) (hd : (x == ("__debug__" : Str)) = false := by decide)
    (hcd : (x == ("__classdict__" : Str)) = false := by decide) (hg : Gl X "len" := by rfl) (he : starEach [.Subscript (.Name x px) (.Constant (.int 0) j p1) p2] X.env = (false, eval (.Subscript (.Name x px) (.Constant (.int 0) j p1) p2) X.env) :: starEach [] X.env := by rfl)
    (hpl : (backTo pos (starEach [] X.env)).any (·.1) = false := by rfl) : QV X (.Call (.Name "len" p3) [.Subscript (.Name x px) (.Constant (.int 0) j p1) p2] [] pos) (rPoolLen k) := by
  refine ⟨fun env Q Q' f q => poolAt.mono (fun g c b => f _ _) q, pe_imp (pe_callB call_len_seq hg hm (by decide +kernel) (pa_cons (pe_ix ix_list (pe_var hN hv hd hcd) pe_int (fun _ _ => rfl)) pa_nil he) (by decide) (by decide) he hpl) ?_⟩
  intro σ H Q ⟨env, G, F, rep, g, c, b, e, q⟩
  obtain ⟨p, r, e1, ne, hp, hq, f⟩ := rep.pool e
  refine ⟨.ref p, e1, p, _, 0, .ref r, rfl, rfl, .inl (.inl hp), rfl, r, _, rfl, .inl (.inl (.inl hq)), ?_⟩
  rw [List.length_map]
  exact q _ G H idS rep (.int _)
theorem qe_poolpop (k : Nat) (hN : X.N[k]? = some x := by rfl) (hv : Vis X.env.scope x := by first | exact Or.inl rfl | exact Or.inr (Or.inl rfl) | exact Or.inr (Or.inr rfl)) (hd : (x == ("__debug__" : Str)) = false := by decide)
    (hcd : (x == ("__classdict__" : Str)) = false := by decide) (hbase : attributeBase (.Subscript (.Name x px) (.Constant (.int 0) j p1) p2) "pop" X.env (eval (.Subscript (.Name x px) (.Constant (.int 0) j p1) p2) X.env) = eval (.Subscript (.Name x px) (.Constant (.int 0) j p1) p2) X.env := by rfl)
    (hline : (p3.endLine == pos.line) = true := by rfl) : QE X (.Call (.Attribute (.Subscript (.Name x px) (.Constant (.int 0) j p1) p2) "pop" p3) [] [] pos) (rPoolPop k) := by
  refine ⟨fun env Q Q' f q => poolAt.mono (fun g c b ⟨g', x, a, z⟩ => ⟨g', x, a, f _ _ z⟩) q, pe_imp (pe_bm0 PySem.F.plainAttrs_list PySem.F.slot_list_pop PySem.F.type_list_pop mt_pop (pe_ix ix_list (pe_var hN hv hd hcd) pe_int (fun _ _ => rfl)) hbase hline) ?_⟩
  intro σ H Q ⟨env, G, F, rep, g, c, b, e, g', y, eg, q⟩
  obtain ⟨p, r, e1, ne, hp, hq, f⟩ := rep.pool e
  subst eg
  refine ⟨.ref p, e1, p, _, 0, .ref r, rfl, rfl, .inl (.inl hp), rfl, ty_list hq, r, _, .int y, rfl, rfl, hq, ?_, ?_⟩
  · rw [List.length_map, List.length_append, List.map_append, List.getElem?_append_right (by rw [List.length_map]; simp)]
    simp
  · refine q (.int y) G _ idS (.of (f _ g' c b (fun a h1 h2 => upd_ne h2) ?_ ?_) (.int y))
    · rw [upd_ne ne]; exact hp
    · rw [upd_same, List.map_append, List.map_singleton, List.dropLast_concat]
end
section
variable {X : Cx} {kp : List Nat} {x : Str} {a : Expr} {r : RV} {j : Nat} {px p1 tp pos : Pos}
theorem qs_poolset1 (k : Nat) (he : QV X a r) (hN : X.N[k]? = some x := by rfl) (hv : Vis X.env.scope x := by first | exact Or.inl rfl | exact Or.inr (Or.inl rfl) | exact Or.inr (Or.inr rfl)) (hd : (x == ("__debug__" : Str)) = false := by decide)
    (hcd : (x == ("__classdict__" : Str)) = false := by decide)
    (ha : ∀ v, assign (.Subscript (.Name x px) (.Constant (.int 1) j p1) tp) X.env v = (do
      let ov ← holding [v] (eval (.Name x px) X.env)
      let iv ← holding [v, ov] (eval (.Constant (.int 1) j p1) X.env)
      standAt tp
      holding [v, ov, iv] (setItem ov iv v)
      release [v, ov, iv] []) := by intro _; rfl)
    (hs : swapsWithSole [.Subscript (.Name x px) (.Constant (.int 1) j p1) tp] a pos.line X.env = pure false := by rfl) (hw : swappedStores [.Subscript (.Name x px) (.Constant (.int 1) j p1) tp] a X.env = pure none := by rfl)
    (h1 : (assignEach [.Subscript (.Name x px) (.Constant (.int 1) j p1) tp] X.env).map (·.2) = [assign (.Subscript (.Name x px) (.Constant (.int 1) j p1) tp) X.env] := by rfl) : QS X kp (.Assign [.Subscript (.Name x px) (.Constant (.int 1) j p1) tp] a pos) (rPoolSet1 k r) := by
  refine ⟨fun A B env l q => he.mono _ _ _ (fun y e z => ?_) q, ps_imp (ps_asg he.run (pg_sub (pe_var hN hv hd hcd) pe_int set_list ha) hs hw h1) ?_⟩
  · split at z
    · exact poolAt.mono (fun g c b => l.1 _) z
    · exact z
  intro E σ H ⟨env, G, F, rep, q⟩
  refine liftV_of he.mono rep q fun y e1 v G1 H1 h1 s1 rep1 d1 => ?_
  split at h1
  · cases d1
    obtain ⟨g, c, b, e, q⟩ := h1
    obtain ⟨p, r, e1, ne, hp, hq, f⟩ := rep1.pool e
    refine ⟨.ref p, e1, p, _, 1, 1, rfl, rfl, hp, rfl, q σ G1 _ s1 keepS_refl (f _ g _ b (fun a h1 h2 => upd_ne h1) upd_same ?_)⟩
    rw [upd_ne ne.symm]
    exact hq
  · exact h1.elim
theorem qs_poolset2 (k : Nat) (he : QV X a r) (hN : X.N[k]? = some x := by rfl) (hv : Vis X.env.scope x := by first | exact Or.inl rfl | exact Or.inr (Or.inl rfl) | exact Or.inr (Or.inr rfl)) (hd : (x == ("__debug__" : Str)) = false := by decide)
    (hcd : (x == ("__classdict__" : Str)) = false := by decide)
    (ha : ∀ v, assign (.Subscript (.Name x px) (.Constant (.int 2) j p1) tp) X.env v = (do
      let ov ← holding [v] (eval (.Name x px) X.env)
      let iv ← holding [v, ov] (eval (.Constant (.int 2) j p1) X.env)
      standAt tp
      holding [v, ov, iv] (setItem ov iv v)
      release [v, ov, iv] []) := by intro _; rfl)
    (hs : swapsWithSole [.Subscript (.Name x px) (.Constant (.int 2) j p1) tp] a pos.line X.env = pure false := by rfl) (hw : swappedStores [.Subscript (.Name x px) (.Constant (.int 2) j p1) tp] a X.env = pure none := by rfl)
    (h1 : (assignEach [.Subscript (.Name x px) (.Constant (.int 2) j p1) tp] X.env).map (·.2) = [assign (.Subscript (.Name x px) (.Constant (.int 2) j p1) tp) X.env] := by rfl) : QS X kp (.Assign [.Subscript (.Name x px) (.Constant (.int 2) j p1) tp] a pos) (rPoolSet2 k r) := by
  refine ⟨fun A B env l q => he.mono _ _ _ (fun y e z => ?_) q, ps_imp (ps_asg he.run (pg_sub (pe_var hN hv hd hcd) pe_int set_list ha) hs hw h1) ?_⟩
  · split at z
    · exact poolAt.mono (fun g c b => l.1 _) z
    · exact z
  intro E σ H ⟨env, G, F, rep, q⟩
  refine liftV_of he.mono rep q fun y e1 v G1 H1 h1 s1 rep1 d1 => ?_
  split at h1
  · cases d1
    obtain ⟨g, c, b, e, q⟩ := h1
    obtain ⟨p, r, e1, ne, hp, hq, f⟩ := rep1.pool e
    refine ⟨.ref p, e1, p, _, 2, 2, rfl, rfl, hp, rfl, q σ G1 _ s1 keepS_refl (f _ g c _ (fun a h1 h2 => upd_ne h1) upd_same ?_)⟩
    rw [upd_ne ne.symm]
    exact hq
  · exact h1.elim
end
end Pf
set_option Elab.async false
set_option linter.all false
set_option maxRecDepth 100000
set_option maxHeartbeats 8000000
/-! Pf: len(set(t)), t a tuple of texts, no two alike. -/
namespace Pf
open PySem PySem.Spec PyProof.Rows L2

section
variable {P : Program} {w : World} {A : Around} {R : Result → Shared → Prop} {it : Addr} {fp wr : List Addr} {C : Array GenState → Array GenState → Prop} {m : Nat} {Y : Nat → Value → Prop} {St : Nat → Shared → Prop}
/-- how the set of the first i texts looks -/
abbrev TxtSet (P : Program) (w : World) (h : Heap) (a : Addr) (zs : List Str) (i : Nat) : Prop := h.SetOf (PySem.strKind P w) a (fun z => decide (z ∈ zs.take i)) i
theorem txtset_at {h h' : Heap} {a : Addr} {zs : List Str} {i : Nat} (e : ∀ o, h.get? a = some o → h'.get? a = some o) (x : TxtSet P w h a zs i) : TxtSet P w h' a zs i :=
  let ⟨o, c1, c2, c3, g, r⟩ := x
  ⟨o, c1, c2, c3, e o g, r⟩
theorem txtset_next {h : Heap} {a : Addr} {zs : List Str} {i : Nat} {z : Str} (nd : zs.Nodup) (hz : zs[i]? = some z) (x : h.SetOf (PySem.strKind P w) a (fun y => (fun y => decide (y ∈ zs.take i)) y || decide (y = z)) (if (fun y => decide (y ∈ zs.take i)) z = true then i else i + 1)) : TxtSet P w h a zs (i + 1) := by
  have hi := (List.getElem?_eq_some_iff.mp hz).1
  have out : z ∉ zs.take i := fun mem => by
    obtain ⟨j, hj, e⟩ := List.getElem_of_mem mem
    have hji : j < i := by
      rw [List.length_take] at hj
      omega
    rw [List.getElem_take] at e
    have := List.pairwise_iff_getElem.mp nd j i (by omega) hi hji
    rw [(List.getElem?_eq_some_iff.mp hz).2] at this
    exact this e
  refine SetOf_congr x (fun y => ?_) (by simp [out])
  rw [List.take_add_one, hz]
  simp [List.mem_append, Bool.decide_or]
theorem txt_loop (W : WalksS P w A.in1 it fp wr C m Y St) {T : Addr} (far : T ∉ fp) {zs : List Str} (lz : zs.length = m) (nd : zs.Nodup) (few : m + 1 < scanBound) (val : ∀ i v, Y i v → ∃ z t, zs[i]? = some z ∧ v = .str z t) :
    ∀ (todo i : Nat) (s : Shared), m - i = todo → i ≤ m → St i s → TxtSet P w s.heap T zs i → (∀ s', Moved (T :: wr) C s s' → TxtSet P w s'.heap T zs m → R (.ok (.ret .none)) s') → codeAny (model P w) A (.builtin "set.update.loop" ⟨[.ref T, .ref it], []⟩) R s := by
  have farW : T ∉ wr := fun z => far (W.sub _ z)
  have more : ∀ b ∈ wr, b ∈ T :: wr := fun b z => List.mem_cons_of_mem _ z
  intro todo
  induction todo with
  | zero =>
    intro i s et hi st now fin
    have ei : i = m := by omega
    subst ei
    refine codeAny_builtin PyProof.Rows.F.entry_set_update_loop ?_
    rw [Around.under_plainId PyProof.Rows.F.plain_set_update_loop _]
    refine (wpAny_bind (W.done s _ _ st fun s' mv => ?_) : wpAny _ A.in1 (pyNext (.ref it) >>= _) _ _ s)
    show wpAny _ A.in1 (ret Value.none) _ _ s'
    have done := fin s' (mv.mono more) (txtset_at (fun o e => mv.heap T o farW e) now)
    exact wpAny_pure done
  | succ todo ih =>
    intro i s et hi st now fin
    have lt : i < m := by omega
    refine codeAny_builtin PyProof.Rows.F.entry_set_update_loop ?_
    rw [Around.under_plainId PyProof.Rows.F.plain_set_update_loop _]
    refine (wpAny_bind (W.item i s _ _ lt st fun v s' y st' mv => ?_) : wpAny _ A.in1 (pyNext (.ref it) >>= _) _ _ s)
    obtain ⟨z, t, hz, ev⟩ := val i v y
    subst ev
    have now' : TxtSet P w s'.heap T zs i := txtset_at (fun o e => mv.heap T o farW e) now
    refine (wpAny_bind (wpAny_holding ?_) : wpAny _ A.in1 (holding [Value.str z t] (setAdd T (.str z t)) >>= _) _ _ s')
    unfold setAdd
    refine wpAny_holding ?_
    refine wpAny_bind ((PySem.strKind P w).pyHash (k := z) (strKind_is _ _ _ _) ?_)
    refine wpAny_setAddHashed_of (knd := PySem.strKind P w) (s := { s' with toks := s'.toks + 1 }) (strKind_is _ _ _ _) rfl now' (by omega) fun h' same next => ?_
    have step := txtset_next (P := P) (w := w) nd hz next
    refine wpAny_pure ⟨plainId_quiet PyProof.Rows.F.plain_set_update_loop _, ih (i + 1) _ (by omega) lt (W.frame _ s' _ _ st' (Nat.le_succ _) fun b inb o e => ?_) step fun s2 mv2 end2 => ?_⟩
    · rw [same.2 b fun q => far (q ▸ inb)]
      exact e
    · refine fin s2 (Moved.trans W.gtrans ((mv.mono more).then_heap (Nat.le_succ _) fun b o out e => ?_) mv2) end2
      rw [same.2 b fun q => out (q ▸ List.mem_cons_self)]
      exact e
end
section
variable {P : Program} {w : World} {A : Around} {E : Value → Shared → Prop} {s : Shared}
theorem txt_vals : ∀ {us : List Value} {zs : List Str}, Vals (zs.map V.str) us → ∀ (i : Nat) (v : Value), us[i]? = some v → ∃ z t, zs[i]? = some z ∧ v = .str z t
  | [], [], .nil, i, v, e => by simp at e
  | u :: us, z :: zs, .cons r k, 0, v, e => by
    obtain ⟨t, q⟩ := (show ∃ t, u = Value.str z t from r)
    have ev : u = v := by simpa using e
    exact ⟨z, t, rfl, ev ▸ q⟩
  | u :: us, z :: zs, .cons r k, i + 1, v, e => by
    obtain ⟨y, t, a, b⟩ := txt_vals k i v (by simpa using e)
    exact ⟨y, t, by simpa using a, b⟩
theorem set_txts {l : Addr} {its : List Value} {zs : List Str} {Q : Value → Shared → Prop} (calm : A.handled = none) (tup : s.heap.IsTuple l its.toArray) (r : Vals (zs.map V.str) its) (nd : zs.Nodup) (few : zs.length + 1 < scanBound)
    (fin : ∀ (h' : Heap) (tk : Nat), TxtSet P w h' s.heap.objs.size zs zs.length → (∀ b o, s.heap.get? b = some o → h'.get? b = some o) → Q (.ref s.heap.objs.size) { s with heap := h', toks := tk }) : wpAny (model P w) A (call (.type "set") [.ref l]) Q E s := by
  have lz : zs.length = its.toArray.size := by
    rw [List.size_toArray, ← r.length, List.length_map]
  obtain ⟨_, _, mro⟩ := PySem.F.called_set.mro
  have a1 := PySem.F.called_set.made
  have a2 := PySem.F.called_set.sub
  refine wpAny_call (codeAny_of_tree ((?_ : wpAny _ _ (callAny (.type "set") _) _ _ _)))
  refine wpAny_pure ⟨Code.quiet_builtin _ (by decide +kernel), codeAny_builtin PySem.F.entry_type_call ?_⟩
  rw [Around.under_plain (weight_type_call_type "set" [.ref l] []) rfl]
  have a3 := PySem.F.called_set.notType
  have a4 := PySem.F.called_set.canCreate
  have a5 := PySem.F.typeCall_set_1 (.ref l)
  repeat (any_goals (first | assumption | wp_step))
  refine codeAny_mono (code_set_new_1 (.ref l) (E := E) (Q₁ := fun ob s1 => ∃ b : Bool, ob = .ref s.heap.objs.size ∧ s1 = { s with heap := s.heap.push { cls := .type "set", dict := none, data := .set #[] 0 (.fresh 0 0 b) } }) fun b => ⟨b, rfl, rfl⟩) fun res s1 hres => ?_
  cases res with
  | error e => exact hres
  | ok fl =>
    cases fl with
    | ret ob =>
      obtain ⟨b, rfl, rfl⟩ := hres
      generalize hO : ({ cls := .type "set", dict := none, data := .set #[] 0 (.fresh 0 0 b) } : Obj) = O
      have live : O.isFreed = false := by
        rw [← hO]
        rfl
      have gO : (s.heap.push O).get? s.heap.objs.size = some O := Heap.get?_push_size _ live
      have ty : Shared.TypeIs { s with heap := s.heap.push O } (.ref s.heap.objs.size) "set" := ⟨_, gO, by rw [← hO]⟩
      have a6 := PySem.F.called_set.init.lookup
      have a7 := PySem.F.called_set.init.bind (.ref s.heap.objs.size)
      repeat (any_goals (first | assumption | wp_step))
      refine codeAny_mono (codeAny_call_builtin (R := wants (fun x s2 => x = .none ∧ ∃ h' tk, s2 = { s with heap := h', toks := tk } ∧ TxtSet P w h' s.heap.objs.size zs zs.length ∧ (∀ b o, s.heap.get? b = some o → h'.get? b = some o)) E)
        PySem.F.called_set.init.plain PySem.F.entry_set_init (check_set_init_1 ty ?_)) fun r2 s2 h2 => ?_
      · obtain ⟨⟨c, dd, dt, sl⟩, gl, ec, n, ed⟩ := tup
        dsimp only at ec ed
        subst ec ed
        have gl' : (s.heap.push O).get? l = some { cls := .type "tuple", dict := dd, data := .seq its.toArray n, slots := sl } := Heap.get?_push_of_some _ gl
        have b1 := PySem.F.sub_tuple_set
        have b2 := PySem.F.sub_tuple_frozenset
        have b3 : (Value.type "tuple" == Value.type "dict") = false := by decide
        have tup1 : (s.heap.push O).IsTuple l its.toArray := ⟨_, gl', rfl, n, rfl⟩
        have sz : (s.heap.push O).objs.size = s.heap.objs.size + 1 := Heap.size_push ..
        have g2 : ((s.heap.push O).push { cls := .type "tuple_iterator", data := .fields #[.ref l, .int 0 0] }).get? s.heap.objs.size = some O := Heap.get?_push_of_some _ gO
        subst hO
        unfold Builtin.«set.__init__» noKeywords Builtin.Frozenset.updateFrom
        generalize hI : pyIter = J
        wp_walk
        subst hI
        refine wpAny_pyIter_tuple tup1 ?_
        refine wpAny_bind (wpAny_runValue ?_)
        have ltl : l < s.heap.objs.size := Heap.lt_size gl
        have calm3 : A.in1.in1.in1.handled = none := by simp [calm]
        refine txt_loop (zs := zs) (T := s.heap.objs.size) (Walks.tuple calm3 _ l (by rw [sz]; exact Nat.ne_of_lt (Nat.lt_succ_of_lt ltl)) its.toArray).toS ?_ lz nd (by rw [← lz]; exact few) (fun i v hv => txt_vals r i v (by simpa using hv)) (its.toArray.size - 0) 0 _ (by omega) (Nat.zero_le _)
          ⟨⟨_, Heap.get?_push_size _ rfl, rfl, rfl⟩, tup1.push _⟩ ?_ fun s3 mv last => ?_
        · rw [sz]
          simp only [List.mem_cons, List.not_mem_nil, or_false, not_or]
          exact ⟨Nat.ne_of_lt (Nat.lt_succ_self _), (Nat.ne_of_lt ltl).symm⟩
        · exact SetOf_congr ((PyProof.Rows.setObjOf_fresh (knd := PySem.strKind P w) b).setOf g2 (by unfold scanBound; omega)) (fun _ => rfl) rfl
        · obtain ⟨h', g', d', tk', os'⟩ := s3
          have q1 : g' = s.gens := mv.gens
          have q2 : d' = s.drawn := mv.drawn
          have q3 : os' = s.os := mv.os
          subst q1 q2 q3
          refine (wpAny_pure ?_ : wpAny _ _ _ _ _ _)
          refine (wpAny_pure ?_ : wpAny _ _ (ret Value.none) _ _ _)
          refine ⟨rfl, h', tk', rfl, by rw [lz]; exact last, fun c o e => ?_⟩
          have lc := Heap.lt_size e
          refine mv.heap c o ?_ (Heap.get?_push_of_some _ (Heap.get?_push_of_some _ e))
          rw [sz]
          simp only [List.mem_cons, List.not_mem_nil, or_false, not_or]
          exact ⟨Nat.ne_of_lt lc, Nat.ne_of_lt (Nat.lt_succ_of_lt lc)⟩
      · cases r2 with
        | error e => exact h2
        | ok fl2 =>
          cases fl2 with
          | ret x =>
            obtain ⟨rfl, h', tk, rfl, last, keep⟩ := h2
            repeat (any_goals (first | assumption | wp_step))
            exact fin _ _ last keep
          | _ => exact h2.elim
    | _ => exact hres.elim
end
def rLenSet (r : RV) : RV := fun env Q => r env fun x e => match x with
  | .tuple ts => ∃ zs, strsOf ts = some zs ∧ zs.Nodup ∧ zs.length < 64 ∧ Q (.int zs.length) e
  | _ => False
theorem qv_lenset {X : Cx} {a : Expr} {r : RV} {p p2 q pos : Pos} (hc : X.calm = true) (hm : X.mg "len" = none) (hm2 : X.mg "set" = none) (h : QV X a r) (hg : Gl X "len" := by rfl) (hg2 : Gl X "set" := by rfl) (na : starEach [a] X.env = (false, eval a X.env) :: starEach [] X.env := by rfl) :
    QV X (.Call (.Name "len" p) [.Call (.Name "set" p2) [a] [] q] [] pos) (rLenSet r) := by
  refine ⟨fun env Q Q' f z => h.mono _ _ _ (fun x e z => ?_) z, ⟨fun pins s σ H Q I z => ?_⟩⟩
  · split at z
    · obtain ⟨zs, a, b, c, z⟩ := z
      exact ⟨zs, a, b, c, f _ _ z⟩
    · exact z
  refine Call_ (ld_blt I hg hm boot_len (PyProof.Rows.callWith_builtin1 (PyProof.Rows.args_cons (Call_ (ld_blt I hg2 hm2 boot_set ?_)) rfl) rfl rfl))
  obtain ⟨env, G, F, rep, z⟩ := z
  refine PyProof.Rows.callWith_type1 (PyProof.Rows.args_cons (thn (h.run.run pins s σ H _ I (liftV_of (Q := fun v H1 => ∃ (l : Addr) (zs : List Str), v = .ref l ∧ SqT X.K H1 l (zs.map V.str) ∧ zs.Nodup ∧ zs.length < 64 ∧ Q (.int zs.length) H1) h.mono rep z fun x e v G1 H1 h1 s1 rep1 d1 => ?_)) fun v s1 ⟨x, H1, I1, r1, q1⟩ => PyProof.Rows.args_nil ?_) na) na rfl
  · split at h1
    · obtain ⟨zs, e1, e2, e3, h1⟩ := h1
      cases d1 with
      | tup g d =>
        have ev := rps_strsOf d e1
        subst ev
        exact ⟨_, zs, rfl, (tq_mono rep1.gh g).sq, e2, e3, h1 _ G1 H1 s1 rep1 (.int _)⟩
    · exact h1.elim
  · obtain ⟨l, zs, rfl, hq, e2, e3, q1⟩ := q1
    cases r1
    obtain ⟨its, rv, tup, _⟩ := I1.tuple hq
    refine set_txts (I1.ok.hd hc) tup rv e2 (by unfold scanBound; omega) fun h' tk last keep => PyProof.Rows.args_nil ?_
    obtain ⟨o, es, ep, t, ho, hex, hd, _, _, _, hf, hn⟩ := last
    have I2 : Inv X pins σ H1 { s1 with heap := h', toks := tk } := I1.kept keep
    exact call_len_set ho hex hd hf (by rw [hn]; omega) ⟨.int zs.length, H1, I2.tok _, ⟨_, by rw [hn]⟩, q1⟩
end Pf
set_option Elab.async false
set_option linter.all false
set_option maxRecDepth 100000
set_option maxHeartbeats 4000000
/-! Pf: dict(t), t a tuple of one pair whose key is a text; d.get(k, x). -/
namespace Pf
open PySem PySem.Spec PyProof.Rows L2

/-- a tuple whose object is known -/
theorem tupQ_plain {X : Cx} {pins : List (Addr × Obj)} {σ : L2.St} {H : Hp} {s : Shared} {a : Addr} {xs : List V} (I : L2.Inv X pins σ H s) (h : TupQ X.K H a xs) : ∃ its : List Value, Vals xs its ∧ PlainSeq "tuple" s.heap a its.toArray := by
  have look : ∃ ob, s.heap.get? a = some ob ∧ ob.dict = none := by
    rcases h with ⟨o, g, d⟩ | ⟨o, its, n, g, c, d, _⟩
    · exact ⟨o, (I.hok a _ g).1, d⟩
    · exact ⟨o, I.kIn a o g, d⟩
  obtain ⟨its, r, ⟨o, g, c, n, e⟩, _⟩ := I.tuple h.sq
  obtain ⟨ob, g2, d⟩ := look
  rw [g] at g2
  cases g2
  exact ⟨its, r, o, n, g, c, d, e⟩
theorem cr_dict1 {X : Cx} (calm : X.calm = true) : CallR X (.type "dict") (fun xs H Q => ∃ a b k v, xs = [.ref a] ∧ TupQ X.K H a [.ref b] ∧ SqT X.K H b [kV k, v] ∧ ∀ p, H p = none → Q (.ref p) (upd H p (.dK [(k, v)]))) := by
  intro pins s σ H xs us Q I r ⟨a, b, k, v, ex, ha, hb, q⟩
  subst ex
  obtain ⟨u, eu, rx⟩ := vals1 r
  subst eu
  cases rx
  obtain ⟨its, ri, pl⟩ := tupQ_plain I ha
  obtain ⟨u1, e1, r1⟩ := vals1 ri
  subst e1
  cases r1
  obtain ⟨jts, rj, tj, _⟩ := I.tuple hb
  obtain ⟨ku, vu, e2, rk, rv⟩ := vals2 rj
  subst e2
  have small : (1 : Nat) ≤ sizeLine := by rw [sizeLine_eq]; omega
  refine PySem.call_dict_pairs (knd := mixKind X.prog X.w) (kvs := [(k, vu)]) (PairArg.tuple a [Value.ref b].toArray (fun _ => b) [(ku, vu)]) (I.ok.hd calm) ⟨pl, rfl, fun j x y e => ?_⟩ ⟨rfl, fun j x y e => ?_⟩ small fun h' tk dd keep => ?_
  · cases j with
    | zero =>
      cases e
      exact ⟨rfl, .inl tj⟩
    | succ j => cases e
  · cases j with
    | zero =>
      cases e
      exact ⟨k, rfl, kV_is (P := X.prog) (w := X.w) rk⟩
    | succ j => cases e
  · have fresh : (s.heap.objs.size == sysModules) = false := beq_eq_false_iff_ne.mpr (Nat.ne_of_gt I.big)
    have keep' : ∀ c o, s.heap.get? c = some o → h'.get? c = some o := fun c o e => keep c o (fun m => nomatch m) e
    refine ⟨.ref s.heap.objs.size, upd H s.heap.objs.size (.dK [(k, v)]), I.laid (t' := tk) keep' (Nat.le_refl _) (show ObjOk X.prog X.w _ _ _ (.dK [(k, v)]) from ⟨small, fresh, [(k, vu)], .cons ⟨rfl, rv⟩ .nil, dd⟩), rfl, q _ (I.hok.fresh (Nat.le_refl _))⟩
def rDict (r : RP) : RE := fun env Q => r env fun a e => dref e a fun x => match x with
  | .tuple [.tuple [.str z, y]] => Q (.dct [(.inr z, y)]) e
  | _ => False
theorem qe_dict {X : Cx} {a : Expr} {r : RP} {p pos : Pos} (calm : X.calm = true) (hm : X.mg "dict" = none) (ha : QP X a r) (hg : Gl X "dict" := by rfl) (he : starEach [a] X.env = (false, eval a X.env) :: starEach [] X.env := by rfl) (hpl : (backTo pos (starEach [] X.env)).any (·.1) = false := by rfl) : QE X (.Call (.Name "dict" p) [a] [] pos) (rDict r) := by
  refine ⟨fun env Q Q' f q => ha.mono _ _ _ (fun x e z => dref.mono (fun y z => ?_) z) q, pe_imp (pe_callTy (cr_dict1 calm) hg hm (by decide +kernel) (pa_cons ha.run pa_nil he) (by decide) (by decide) he hpl) ?_⟩
  · split at z
    · exact f _ _ z
    · exact z
  intro σ H Q ⟨env, G, F, rep, q⟩
  refine liftP_of ha.mono rep q fun x e v G1 H1 h1 s1 rep1 d1 => ?_
  obtain ⟨y, p1, h2⟩ := dref_pk rep1 d1 h1
  split at h2
  · rename_i z y
    obtain ⟨a, vs, rfl, g, d⟩ := p1.tup
    cases d with
    | cons d dn =>
      cases dn
      cases d with
      | tup g2 d2 =>
        cases d2 with
        | cons dz d2 =>
          cases dz
          cases d2 with
          | cons dy dn =>
            cases dn
            rename_i b u
            exact ⟨a, b, .inr z, u, rfl, tq_mono rep1.gh g, (tq_mono rep1.gh g2).sq, fun l hl => h2 _ G1 _ s1 (rep1.newO hl ⟨l, _, rfl, rfl, upd_same, .cons dy .nil⟩)⟩
  · exact h2.elim
def findD (kvs : List (Key × D)) (k : Key) : Option D := (kvs.find? fun kv => decide (kv.1 = k)).map (·.2)
theorem dkv_find {K : Fg} {G : Hp} (k : Key) : ∀ {kvs : List (Key × D)} {vs : List (Key × V)}, DpKV K G vs kvs → (valV vs k = none ∧ findD kvs k = none) ∨ ∃ v x, valV vs k = some v ∧ findD kvs k = some x ∧ Rp K G v x
  | _, _, .nil => .inl ⟨rfl, rfl⟩
  | _, _, .cons (k := k') h t => by
    unfold valV findD
    rw [List.find?_cons, List.find?_cons]
    by_cases e : k' = k
    · exact .inr ⟨_, _, by simp [e], by simp [e], h⟩
    · simp only [e, decide_false]
      exact dkv_find k t
def rGet (k : Nat) (ri rd : RV) : RV := fun env Q => ∃ kvs, env[k]? = some (some (.dct kvs)) ∧ ri env fun j e1 => rd e1 fun y e => match j with
  | .str z => e[k]? = some (some (.dct kvs)) ∧ Q ((findD kvs (.inr z)).getD y) e
  | _ => False
theorem qv_get {X : Cx} (k : Nat) {x : Str} {a b : Expr} {ri rd : RV} {px apos cpos : Pos} (hu : X.A.units + 64 < cLine) (hi : QV X a ri) (hd0 : QV X b rd) (hN : X.N[k]? = some x := by rfl) (hv : Vis X.env.scope x := by first | exact Or.inl rfl | exact Or.inr (Or.inl rfl) | exact Or.inr (Or.inr rfl))
    (hd : (x == ("__debug__" : Str)) = false := by decide) (hcd : (x == ("__classdict__" : Str)) = false := by decide) (hbase : attributeBase (.Name x px) "get" X.env (eval (.Name x px) X.env) = eval (.Name x px) X.env := by rfl)
    (hfew : ((backTo cpos (starEach [a, b] X.env)).all (fun x => !x.1) && (backToKw cpos (keywordEach [] X.env)).all (fun x => x.1.isSome) && decide (([a, b] : List Expr).length + ([] : List Keyword).length + (if ([] : List Keyword).isEmpty then 0 else 1) < 30)) = true := by rfl)
    (hline : (apos.endLine == cpos.line) = true := by rfl) (ht : backTo cpos (starEach [a, b] X.env) = [(false, eval a X.env), (false, eval b X.env)] := by rfl) : QV X (.Call (.Attribute (.Name x px) "get" apos) [a, b] [] cpos) (rGet k ri rd) := by
  refine ⟨fun env Q Q' f ⟨kvs, a, q⟩ => ⟨kvs, a, hi.mono _ _ _ (fun j e z => hd0.mono _ _ _ (fun y e z => ?_) z) q⟩, pe_imp (pe_dget2 (by omega) (pe_var hN hv hd hcd) hi.run hd0.run ⟨hbase, hfew, hline, ht⟩) ?_⟩
  · split at z
    · exact ⟨z.1, f _ _ z.2⟩
    · exact z
  intro σ H Q ⟨env, G, F, rep, kvs, e0, q⟩
  obtain ⟨v0, fp0, g0, p, vs, e1, e2, hp, _⟩ := rep.get e0
  subst e1
  refine ⟨.ref p, g0, p, rfl, .inl ⟨vs, .inl hp⟩, ?_⟩
  refine liftV_of hi.mono rep q fun j e1 u G1 H1 h1 s1 rep1 d1 => ?_
  refine liftV_of hd0.mono rep1 h1 fun y e2 w G2 H2 h2 s2 rep2 d2 => ?_
  split at h2
  · rename_i z
    obtain ⟨a2, h3⟩ := h2
    obtain ⟨v1, fp1, g1, p1, vs1, e3, e4, hp1, dk⟩ := rep2.get a2
    rw [g0] at g1
    cases g1
    cases e3
    cases d1
    rcases dkv_find (.inr z) dk with ⟨f1, f2⟩ | ⟨v, x, f1, f2, f3⟩
    · refine ⟨valV vs1 (.inr z), .inl ⟨vs1, .inr z, .inl hp1, rfl, rfl⟩, ?_⟩
      rw [f2] at h3
      rw [f1]
      exact h3 _ G2 H2 (s1.trans s2) rep2 d2
    · refine ⟨valV vs1 (.inr z), .inl ⟨vs1, .inr z, .inl hp1, rfl, rfl⟩, ?_⟩
      rw [f2] at h3
      rw [f1]
      exact h3 _ G2 H2 (s1.trans s2) rep2 f3
  · exact h2.elim
end Pf
set_option Elab.async false
set_option linter.all false
set_option maxRecDepth 100000
set_option maxHeartbeats 4000000
set_option exponentiation.threshold 10000
/-! Pf: fractions as data. -/
namespace Pf
open PySem PySem.Spec PyProof.Rows L2
/-- a fraction as the program writes it -/
def qD (r : Rat) : D := .tuple [.int r.num, .int (r.den : Int)]
/-- both parts have less than k bits -/
def Fit (k : Nat) (r : Rat) : Prop := r.num.natAbs < 2 ^ k ∧ r.den < 2 ^ k
theorem Fit.mono {k l : Nat} {r : Rat} (h : Fit k r) (hl : k ≤ l) : Fit l r := ⟨Nat.lt_of_lt_of_le h.1 (Nat.pow_le_pow_right (by decide) hl), Nat.lt_of_lt_of_le h.2 (Nat.pow_le_pow_right (by decide) hl)⟩
theorem gcd_sign (a b : Int) (hb : b ≠ 0) : a.fdiv (if b < 0 then -((Nat.gcd a.natAbs b.natAbs : Nat) : Int) else ((Nat.gcd a.natAbs b.natAbs : Nat) : Int)) = (Rat.divInt a b).num ∧
    b.fdiv (if b < 0 then -((Nat.gcd a.natAbs b.natAbs : Nat) : Int) else ((Nat.gcd a.natAbs b.natAbs : Nat) : Int)) = ((Rat.divInt a b).den : Int) := by
  have hg : Nat.gcd a.natAbs b.natAbs = b.gcd a := by
    rw [Nat.gcd_comm]
    rfl
  have da : ((b.gcd a : Nat) : Int) ∣ a := Int.gcd_dvd_right ..
  have db : ((b.gcd a : Nat) : Int) ∣ b := Int.gcd_dvd_left ..
  rw [hg, Rat.num_divInt, Rat.den_divInt, if_neg hb]
  by_cases h : b < 0
  · rw [if_pos h, Int.fdiv_eq_ediv_of_dvd (Int.neg_dvd.mpr da), Int.fdiv_eq_ediv_of_dvd (Int.neg_dvd.mpr db), Int.sign_eq_neg_one_of_neg h, Int.ediv_neg, Int.ediv_neg]
    refine ⟨?_, ?_⟩
    · rw [Int.neg_one_mul, Int.neg_ediv_of_dvd da]
    · rw [Int.natCast_ediv, show ((b.natAbs : Nat) : Int) = -b by omega, Int.neg_ediv_of_dvd db]
  · rw [if_neg h, Int.fdiv_eq_ediv_of_dvd da, Int.fdiv_eq_ediv_of_dvd db, Int.sign_eq_one_of_pos (by omega)]
    refine ⟨by rw [Int.one_mul], ?_⟩
    rw [Int.natCast_ediv, show ((b.natAbs : Nat) : Int) = b by omega]
theorem qD_divInt (a b : Int) (hb : b ≠ 0) : qD (Rat.divInt a b) = .tuple [.int (a.fdiv (if b < 0 then -((Nat.gcd a.natAbs b.natAbs : Nat) : Int) else ((Nat.gcd a.natAbs b.natAbs : Nat) : Int))),
    .int (b.fdiv (if b < 0 then -((Nat.gcd a.natAbs b.natAbs : Nat) : Int) else ((Nat.gcd a.natAbs b.natAbs : Nat) : Int)))] := by
  unfold qD
  rw [(gcd_sign a b hb).1, (gcd_sign a b hb).2]
theorem gcd_ok (a b : Int) (hb : b ≠ 0) (h : b.natAbs < 2 ^ 9000) : CDivA 0 (if b < 0 then -((Nat.gcd a.natAbs b.natAbs : Nat) : Int) else ((Nat.gcd a.natAbs b.natAbs : Nat) : Int)) := by
  have hp : 0 < Nat.gcd a.natAbs b.natAbs := Nat.gcd_pos_of_pos_right _ (by omega)
  have hl : Nat.gcd a.natAbs b.natAbs < 2 ^ 9000 := Nat.lt_of_le_of_lt (Nat.gcd_le_right _ (by omega)) h
  generalize Nat.gcd a.natAbs b.natAbs = g at hp hl
  have e : (if b < 0 then -(g : Int) else (g : Int)).natAbs = g := by
    split <;> omega
  refine ⟨fun z => ?_, ?_⟩
  · rw [z] at e
    change 0 = g at e
    omega
  · rw [e]
    exact log2_lt_of_lt hl (by decide)
theorem bits_of {a : Int} {k : Nat} (h : a.natAbs < 2 ^ k) : Builtin.Int.intBits a ≤ k := by
  unfold Builtin.Int.intBits
  split
  · exact Nat.zero_le _
  · rename_i n
    have ha : a ≠ 0 := fun z => by simp [z] at n
    exact (Nat.log2_lt (by omega)).mpr h
theorem mul_fit {a b : Int} {k l : Nat} (ha : a.natAbs < 2 ^ k) (hb : b.natAbs < 2 ^ l) (hk : k ≤ 1000000) (hl : l ≤ 1000000) : IntMulOk a b :=
  IntMulOk.of_bits (Nat.le_trans (bits_of ha) (Nat.le_trans hk (by decide))) (Nat.le_trans (bits_of hb) (Nat.le_trans hl (by decide)))
theorem mul_lt {a b : Nat} {k l : Nat} (ha : a < 2 ^ k) (hb : b < 2 ^ l) : a * b < 2 ^ (k + l) := by
  rw [Nat.pow_add]
  exact Nat.mul_lt_mul'' ha hb
theorem den_mul_lt {r s : Rat} {k l : Nat} (h : r.den < 2 ^ k) (h' : s.den < 2 ^ l) (hk : k + l ≤ 9000) : ((r.den : Int) * (s.den : Int)).natAbs < 2 ^ 9000 := by
  rw [Int.natAbs_mul]
  exact Nat.lt_of_lt_of_le (mul_lt h h') (Nat.pow_le_pow_right (by decide) hk)
theorem den_ne (r s : Rat) : (r.den : Int) * (s.den : Int) ≠ 0 := Int.mul_ne_zero (by have := r.den_nz; omega) (by have := s.den_nz; omega)
theorem den0 (r : Rat) : (r.den : Int) ≠ 0 := by have := r.den_nz; omega
theorem add_as (r s : Rat) : Rat.divInt (r.num * s.den + s.num * r.den) (r.den * s.den) = r + s := by
  have := Rat.divInt_add_divInt r.num s.num (den0 r) (den0 s)
  rw [Rat.num_divInt_den, Rat.num_divInt_den] at this
  exact this.symm
theorem sub_as (r s : Rat) : Rat.divInt (r.num * s.den - s.num * r.den) (r.den * s.den) = r - s := by
  have := Rat.divInt_sub_divInt r.num s.num (den0 r) (den0 s)
  rw [Rat.num_divInt_den, Rat.num_divInt_den] at this
  exact this.symm
theorem mul_as (r s : Rat) : Rat.divInt (r.num * s.num) (r.den * s.den) = r * s := by
  have := Rat.divInt_mul_divInt r.num s.num (d₁ := r.den) (d₂ := s.den)
  rw [Rat.num_divInt_den, Rat.num_divInt_den] at this
  exact this.symm
theorem inv_as (s : Rat) : Rat.divInt (s.den : Int) s.num = s⁻¹ := (Rat.inv_def s).symm
theorem div_as (r s : Rat) : Rat.divInt (r.num * s.den) (r.den * s.num) = r / s := by
  have := Rat.divInt_mul_divInt r.num (s.den : Int) (d₁ := r.den) (d₂ := s.num)
  rw [Rat.num_divInt_den, inv_as] at this
  rw [Rat.div_def]
  exact this.symm
theorem int_as (r : Rat) (n : Int) : Rat.divInt (n * r.num) r.den = (n : Rat) * r := by
  have := mul_as (n : Rat) r
  rw [show ((n : Rat)).num = n from rfl, show ((n : Rat)).den = 1 from rfl] at this
  rw [← this]
  simp
theorem fit_divInt {a b : Int} {k : Nat} (hb : b ≠ 0) (h1 : a.natAbs < 2 ^ k) (h2 : b.natAbs < 2 ^ k) : Fit k (Rat.divInt a b) := by
  have hg : 0 < b.gcd a := Nat.pos_of_ne_zero fun z => hb (Int.gcd_eq_zero_iff.mp z).1
  refine ⟨?_, ?_⟩
  · rw [Rat.num_divInt, Int.natAbs_ediv_of_dvd (Int.dvd_trans (Int.gcd_dvd_right ..) (Int.dvd_mul_left ..)), Int.natAbs_mul, Int.natAbs_sign_of_ne_zero hb, Nat.one_mul]
    exact Nat.lt_of_le_of_lt (Nat.div_le_self _ _) h1
  · rw [Rat.den_divInt, if_neg hb]
    exact Nat.lt_of_le_of_lt (Nat.div_le_self _ _) h2
theorem qD_inj {r s : Rat} (h : qD r = qD s) : r = s := by
  unfold qD at h
  injection h with h
  injection h with h1 h2
  injection h1 with h1
  injection h2 with h2 _
  injection h2 with h2
  exact Rat.ext h1 (by omega)
end Pf
set_option Elab.async false
set_option linter.all false
set_option maxRecDepth 100000
set_option maxHeartbeats 4000000
set_option exponentiation.threshold 10000
/-! Pf: rows and tables of fractions as data; walks and comprehensions without an invariant of one's own. -/
namespace Pf
open PySem PySem.Spec PyProof.Rows L2
def rowD (r : List Rat) : D := .list (r.map qD)
def matD (m : List (List Rat)) : D := .list (m.map rowD)
def at2 (m : List (List Rat)) (i j : Nat) : Rat := (m.getD i []).getD j 0
theorem atI_map {α : Type} {f : α → D} {xs : List α} {i : Nat} {x : α} (h : xs[i]? = some x) : atI (xs.map f) (i : Int) = some (f x) := atI_nat (by rw [List.getElem?_map, h]; rfl)
theorem atI_mem {α : Type} {xs : List α} {i : Nat} {x : α} (h : xs[i]? = some x) : atI xs (i : Int) = some x := atI_nat h
theorem ixN_nat {n i : Nat} (h : i < n) : ixN n (i : Int) = some i := by
  unfold ixN
  rw [if_pos (by omega), if_pos (by omega)]
  rfl
theorem shaped_qD (r : Rat) : SeqAt.shaped (qD r) = true := rfl
theorem eqv_qD (r s : Rat) : PyData.eqv (qD r) (qD s) = decide (r = s) := by
  have e : PyData.eqv (qD r) (qD s) = ((r.num == s.num) && ((r.den : Int) == (s.den : Int))) := by
    unfold qD
    simp [PyData.eqv, PyData.eqvAll]
  rw [e]
  by_cases h : r = s
  · subst h
    simp
  · rw [decide_eq_false h]
    by_cases h1 : r.num = s.num
    · have h2 : ¬ (r.den : Int) = (s.den : Int) := fun z => h (Rat.ext h1 (by omega))
      simp [h1, h2]
    · simp [h1]
theorem rngD_at {lo hi : Int} {i : Nat} {x : D} (h : (rngD lo hi)[i]? = some x) : x = .int (lo + (i : Nat)) ∧ i < (hi - lo).toNat := by
  have hi : i < (rngD lo hi).length := (List.getElem?_eq_some_iff.mp h).1
  rw [rngD_len] at hi
  rw [rngD_get hi] at h
  exact ⟨(Option.some.inj h).symm, hi⟩
theorem get_map {α β : Type} {f : α → β} {xs : List α} {i : Nat} {y : β} (h : (xs.map f)[i]? = some y) : ∃ x, xs[i]? = some x ∧ y = f x := by
  rw [List.getElem?_map] at h
  obtain ⟨x, e1, e2⟩ := Option.map_eq_some_iff.mp h
  exact ⟨x, e1, e2.symm⟩
theorem fit_mul {k l : Nat} {r s : Rat} (hr : Fit k r) (hs : Fit l s) : Fit (k + l) (r * s) := by
  rw [← mul_as]
  refine fit_divInt (den_ne r s) ?_ ?_
  · rw [Int.natAbs_mul]
    exact mul_lt hr.1 hs.1
  · rw [Int.natAbs_mul]
    exact mul_lt hr.2 hs.2
theorem small64 {n : Nat} (h : n ≤ 1000) : n < sizeLine := by rw [sizeLine_eq]; omega
/-- [f(x) for x in xs] in an environment that stays -/
theorem lc_map {t : RG} {re : RV} {vs : List Nat} {xs ys : List D} {e : Env} {W : List D → Env → Prop} (hl : xs.length = ys.length) (hz : xs.length ≤ 1000) (step : ∀ (i : Nat) (x y : D) (k : D → Env → Prop), xs[i]? = some x → ys[i]? = some y → (∀ e3, backE e e3 vs = e → k y e3) → t x (wipeE e vs) fun e1 => re e1 k) (q : W ys e) :
    ∃ I : Nat → List D → Env → Prop, I 0 [] e ∧ (∀ i x acc e', xs[i]? = some x → I i acc e' → t x (wipeE e' vs) fun e1 => rYes e1 fun b e2 => if b = true then re e2 fun y e3 => acc.length < sizeLine ∧ I (i + 1) (acc ++ [y]) (backE e' e3 vs) else I (i + 1) acc (backE e' e2 vs)) ∧ ∀ acc e', I xs.length acc e' → W acc e' := by
  refine ⟨fun i acc e' => e' = e ∧ acc = ys.take i, ⟨rfl, rfl⟩, fun i x acc e' hx ⟨e1, e2⟩ => ?_, fun acc e' ⟨e1, e2⟩ => ?_⟩
  · subst e1 e2
    have hi := (List.getElem?_eq_some_iff.mp hx).1
    have hy : ys[i]? = some (ys[i]'(by omega)) := List.getElem?_eq_getElem _
    refine step i x _ _ hx hy fun e3 h3 => ⟨?_, h3, ?_⟩
    · rw [List.length_take]
      exact small64 (by omega)
    · rw [List.take_add_one, hy]
      rfl
  · subst e1 e2
    rw [hl, List.take_length]
    exact q
/-- the same over pairs -/
theorem lcT_map {n : Nat} {ts : RGs} {re : RV} {vs : List Nat} {xss : List (List D)} {ys : List D} {e : Env} {W : List D → Env → Prop} (hl : xss.length = ys.length) (hz : xss.length ≤ 1000) (step : ∀ (i : Nat) (xs : List D) (y : D) (k : D → Env → Prop), xss[i]? = some xs → ys[i]? = some y → (∀ e3, backE e e3 vs = e → k y e3) → xs.length = n ∧ ts xs (wipeE e vs) fun e1 => re e1 k) (q : W ys e) :
    ∃ I : Nat → List D → Env → Prop, I 0 [] e ∧ (∀ i xs acc e', xss[i]? = some xs → I i acc e' → xs.length = n ∧ ts xs (wipeE e' vs) fun e1 => rYes e1 fun b e2 => if b = true then re e2 fun y e3 => acc.length < sizeLine ∧ I (i + 1) (acc ++ [y]) (backE e' e3 vs) else I (i + 1) acc (backE e' e2 vs)) ∧ ∀ acc e', I xss.length acc e' → W acc e' := by
  refine ⟨fun i acc e' => e' = e ∧ acc = ys.take i, ⟨rfl, rfl⟩, fun i x acc e' hx ⟨e1, e2⟩ => ?_, fun acc e' ⟨e1, e2⟩ => ?_⟩
  · subst e1 e2
    have hi := (List.getElem?_eq_some_iff.mp hx).1
    have hy : ys[i]? = some (ys[i]'(by omega)) := List.getElem?_eq_getElem _
    refine step i x _ _ hx hy fun e3 h3 => ⟨?_, h3, ?_⟩
    · rw [List.length_take]
      exact small64 (by omega)
    · rw [List.take_add_one, hy]
      rfl
  · subst e1 e2
    rw [hl, List.take_length]
    exact q
theorem zipD_at {α β : Type} {f : α → D} {g : β → D} {xs : List α} {ys : List β} {i : Nat} {z : List D} (h : (zipD (xs.map f) (ys.map g))[i]? = some z) : ∃ x y, xs[i]? = some x ∧ ys[i]? = some y ∧ z = [f x, g y] := by
  unfold zipD at h
  rw [List.getElem?_zipWith, List.getElem?_map, List.getElem?_map] at h
  cases hx : xs[i]? with
  | none => rw [hx] at h; simp at h
  | some x =>
    cases hy : ys[i]? with
    | none => rw [hx, hy] at h; simp at h
    | some y =>
      rw [hx, hy] at h
      exact ⟨x, y, rfl, rfl, (Option.some.inj h).symm⟩
theorem zipD_len {α β : Type} {f : α → D} {g : β → D} {xs : List α} {ys : List β} : (zipD (xs.map f) (ys.map g)).length = min xs.length ys.length := by
  unfold zipD
  rw [List.length_zipWith, List.length_map, List.length_map]
end Pf
set_option Elab.async false
set_option linter.all false
set_option maxRecDepth 100000
set_option maxHeartbeats 4000000
/-! Pf: the elimination, plainly. -/
namespace Pf
def clearRow (row lead : List Rat) (col : Nat) : List Rat := List.zipWith (fun a b => a - row.getD col 0 * b) row lead
def findLead (m : List (List Rat)) (d c : Nat) : Option Nat := (List.range m.length).find? fun i => decide (d ≤ i ∧ at2 m i c ≠ 0)
def swapDiv (m : List (List Rat)) (d i c : Nat) : List (List Rat) := ((m.set d (m.getD i [])).set i (m.getD d [])).set d ((m.getD i []).map (· / at2 m i c))
def clearTo (m : List (List Rat)) (d c t : Nat) : List (List Rat) := m.mapIdx fun j r => if j < t ∧ j ≠ d then clearRow r (m.getD d []) c else r
def elim (m : List (List Rat)) (d i c : Nat) : List (List Rat) := clearTo (swapDiv m d i c) d c m.length
def redStep (st : List (List Rat) × List Nat) (c : Nat) : List (List Rat) × List Nat := match findLead st.1 st.2.length c with
  | none => st
  | some i => (elim st.1 st.2.length i c, st.2 ++ [c])
def redAll (m : List (List Rat)) (cols : List Nat) : List (List Rat) × List Nat := cols.foldl redStep (m, [])
theorem findLead_some {m : List (List Rat)} {d c i : Nat} (h1 : d ≤ i) (h2 : i < m.length) (h3 : at2 m i c ≠ 0) (h4 : ∀ j, d ≤ j → j < i → at2 m j c = 0) : findLead m d c = some i := by
  unfold findLead
  rw [List.find?_eq_some_iff_getElem]
  refine ⟨by simp [h1, h3], i, by simpa using h2, by simp, fun j hj => ?_⟩
  simp only [List.getElem_range, Bool.not_eq_true', decide_eq_false_iff_not, not_and, Classical.not_not]
  exact fun h => h4 j h hj
theorem findLead_none {m : List (List Rat)} {d c : Nat} (h : ∀ j, d ≤ j → j < m.length → at2 m j c = 0) : findLead m d c = none := by
  unfold findLead
  rw [List.find?_eq_none]
  intro j hj
  rw [List.mem_range] at hj
  simp only [decide_eq_true_eq, not_and, Classical.not_not]
  exact fun h1 => h j h1 hj
theorem findLead_spec {m : List (List Rat)} {d c i : Nat} (h : findLead m d c = some i) : d ≤ i ∧ i < m.length ∧ at2 m i c ≠ 0 ∧ ∀ j, d ≤ j → j < i → at2 m j c = 0 := by
  unfold findLead at h
  rw [List.find?_eq_some_iff_getElem] at h
  obtain ⟨h1, j, hj, e, h2⟩ := h
  rw [List.getElem_range] at e
  subst e
  simp only [decide_eq_true_eq] at h1
  refine ⟨h1.1, by simpa using hj, h1.2, fun k h3 h4 => ?_⟩
  have := h2 k h4
  simp only [List.getElem_range, Bool.not_eq_true', decide_eq_false_iff_not, not_and, Classical.not_not] at this
  exact this h3
theorem redAll_succ (m : List (List Rat)) (cols : List Nat) (j c : Nat) (h : cols[j]? = some c) : redAll m (cols.take (j + 1)) = redStep (redAll m (cols.take j)) c := by
  unfold redAll
  rw [List.take_add_one, h, List.foldl_append]
  rfl
theorem swapDiv_len (m : List (List Rat)) (d i c : Nat) : (swapDiv m d i c).length = m.length := by simp [swapDiv]
theorem clearTo_len (m : List (List Rat)) (d c t : Nat) : (clearTo m d c t).length = m.length := by simp [clearTo]
theorem elim_len (m : List (List Rat)) (d i c : Nat) : (elim m d i c).length = m.length := by simp [elim, clearTo_len, swapDiv_len]
theorem clearTo_get {m : List (List Rat)} {d c t j : Nat} {r : List Rat} (h : m[j]? = some r) : (clearTo m d c t)[j]? = some (if j < t ∧ j ≠ d then clearRow r (m.getD d []) c else r) := by
  unfold clearTo
  rw [List.getElem?_mapIdx, h]
  rfl
theorem clearTo_zero (m : List (List Rat)) (d c : Nat) : clearTo m d c 0 = m := by
  refine List.ext_getElem? fun j => ?_
  cases h : m[j]? with
  | none =>
    rw [List.getElem?_eq_none_iff] at h ⊢
    rw [clearTo_len]
    exact h
  | some r => rw [clearTo_get h, if_neg (by omega)]
theorem clearTo_skip {m : List (List Rat)} {d c t : Nat} (h : t = d) : clearTo m d c (t + 1) = clearTo m d c t := by
  unfold clearTo
  congr 1
  funext j r
  by_cases h1 : j < t ∧ j ≠ d
  · rw [if_pos h1, if_pos (by omega)]
  · rw [if_neg h1, if_neg (by omega)]
theorem clearTo_next {m : List (List Rat)} {d c t : Nat} {r : List Rat} (h : t ≠ d) (hr : m[t]? = some r) : clearTo m d c (t + 1) = (clearTo m d c t).set t (clearRow r (m.getD d []) c) := by
  refine List.ext_getElem? fun j => ?_
  by_cases hj : j = t
  · subst hj
    rw [clearTo_get hr, List.getElem?_set_self (by rw [clearTo_len]; exact (List.getElem?_eq_some_iff.mp hr).1), if_pos (by omega)]
  · rw [List.getElem?_set_ne (fun z => hj z.symm)]
    cases e : m[j]? with
    | none =>
      rw [List.getElem?_eq_none_iff] at e
      rw [List.getElem?_eq_none_iff.mpr (by rw [clearTo_len]; exact e), List.getElem?_eq_none_iff.mpr (by rw [clearTo_len]; exact e)]
    | some q =>
      rw [clearTo_get e, clearTo_get e]
      by_cases h1 : j < t ∧ j ≠ d
      · rw [if_pos h1, if_pos (by omega)]
      · rw [if_neg h1, if_neg (by omega)]
/-- all rows are w wide -/
def Wide (w : Nat) (m : List (List Rat)) : Prop := ∀ r ∈ m, r.length = w
theorem Wide.get {w : Nat} {m : List (List Rat)} (h : Wide w m) {i : Nat} {r : List Rat} (e : m[i]? = some r) : r.length = w := h r (List.mem_of_getElem? e)
theorem wide_of {w : Nat} {m : List (List Rat)} (h : ∀ (i : Nat) (r : List Rat), m[i]? = some r → r.length = w) : Wide w m := fun r hr => by
  obtain ⟨i, hi, e⟩ := List.getElem_of_mem hr
  exact h i r (by rw [← e]; exact List.getElem?_eq_getElem hi)
theorem getD_of {m : List (List Rat)} {i : Nat} {r : List Rat} (h : m[i]? = some r) : m.getD i [] = r := by rw [List.getD_eq_getElem?_getD, h]; rfl
theorem Wide.set {w : Nat} {m : List (List Rat)} (h : Wide w m) {i : Nat} {r : List Rat} (e : r.length = w) : Wide w (m.set i r) := fun q hq => by
  rcases List.mem_or_eq_of_mem_set hq with hq | hq
  · exact h q hq
  · rw [hq]; exact e
theorem Wide.getD {w : Nat} {m : List (List Rat)} (h : Wide w m) {i : Nat} (hi : i < m.length) : (m.getD i []).length = w := by
  have e : m[i]? = some m[i] := List.getElem?_eq_getElem hi
  rw [getD_of e]
  exact h.get e
theorem Wide.swapDiv {w : Nat} {m : List (List Rat)} (h : Wide w m) {d i c : Nat} (hd : d < m.length) (hi : i < m.length) : Wide w (swapDiv m d i c) :=
  ((h.set (h.getD hi)).set (h.getD hd)).set (by rw [List.length_map]; exact h.getD hi)
theorem clearRow_len {row lead : List Rat} {col : Nat} (hl : row.length = lead.length) : (clearRow row lead col).length = row.length := by
  unfold clearRow
  rw [List.length_zipWith]
  omega
theorem Wide.clearTo {w : Nat} {m : List (List Rat)} (h : Wide w m) {d c t : Nat} (hd : d < m.length) : Wide w (clearTo m d c t) := wide_of fun i r e => by
  have hi : i < m.length := by
    have := (List.getElem?_eq_some_iff.mp e).1
    rwa [clearTo_len] at this
  have e2 : m[i]? = some m[i] := List.getElem?_eq_getElem hi
  rw [clearTo_get e2] at e
  cases e
  split
  · rw [clearRow_len (by rw [h.get e2, h.getD hd])]
    exact h.get e2
  · exact h.get e2
theorem Wide.elim {w : Nat} {m : List (List Rat)} (h : Wide w m) {d i c : Nat} (hd : d < m.length) (hi : i < m.length) : Wide w (elim m d i c) := (h.swapDiv hd hi).clearTo (by rw [swapDiv_len]; exact hd)
/-- the state after some columns -/
structure RedOk (w n : Nat) (st : List (List Rat) × List Nat) : Prop where
  wide : Wide w st.1
  len : st.1.length = n
  few : st.2.length ≤ n
theorem redStep_ok {w n : Nat} {st : List (List Rat) × List Nat} (h : RedOk w n st) (c : Nat) : RedOk w n (redStep st c) := by
  unfold redStep
  split
  · exact h
  · rename_i i e
    obtain ⟨h1, h2, _, _⟩ := findLead_spec e
    exact ⟨h.wide.elim (by omega) h2, by rw [elim_len]; exact h.len, by rw [List.length_append, List.length_singleton]; have := h.len; omega⟩
theorem redAll_ok {w n : Nat} : ∀ (cols : List Nat) {st : List (List Rat) × List Nat}, RedOk w n st → RedOk w n (cols.foldl redStep st)
  | [], _, h => h
  | c :: cols, _, h => redAll_ok cols (redStep_ok h c)
end Pf
set_option Elab.async false
set_option linter.all false
set_option maxRecDepth 100000
set_option maxHeartbeats 4000000
set_option exponentiation.threshold 10000
/-! Pf: comprehensions with a test; sums of a book as data; what a row is brought to. -/
namespace Pf
open PySem PySem.Spec PyProof.Rows L2
theorem lc_filter {t : RG} {c : RT} {re : RV} {vs : List Nat} {xs : List D} {p : D → Bool} {g : D → D} {e : Env} {W : List D → Env → Prop} (hz : xs.length ≤ 1000)
    (step : ∀ (i : Nat) (x : D) (k1 : D → Env → Prop) (k2 : Env → Prop), xs[i]? = some x → (p x = true → ∀ e3, backE e e3 vs = e → k1 (g x) e3) → (p x = false → ∀ e2, backE e e2 vs = e → k2 e2) → t x (wipeE e vs) fun e1 => c e1 fun b e2 => if b = true then re e2 k1 else k2 e2)
    (q : W ((xs.filter p).map g) e) :
    ∃ I : Nat → List D → Env → Prop, I 0 [] e ∧ (∀ i x acc e', xs[i]? = some x → I i acc e' → t x (wipeE e' vs) fun e1 => c e1 fun b e2 => if b = true then re e2 fun y e3 => acc.length < sizeLine ∧ I (i + 1) (acc ++ [y]) (backE e' e3 vs) else I (i + 1) acc (backE e' e2 vs)) ∧ ∀ acc e', I xs.length acc e' → W acc e' := by
  refine ⟨fun i acc e' => e' = e ∧ acc = ((xs.take i).filter p).map g, ⟨rfl, rfl⟩, fun i x acc e' hx ⟨e1, e2⟩ => ?_, fun acc e' ⟨e1, e2⟩ => ?_⟩
  · subst e1 e2
    refine step i x _ _ hx (fun hp e3 h3 => ⟨?_, h3, ?_⟩) (fun hp e2 h2 => ⟨h2, ?_⟩)
    · rw [List.length_map]
      refine Nat.lt_of_le_of_lt (Nat.le_trans (List.length_filter_le _ _) (List.length_take_le' _ _)) (small64 hz)
    · rw [List.take_add_one, hx, List.filter_append, List.map_append]
      simp [hp]
    · rw [List.take_add_one, hx, List.filter_append, List.map_append]
      simp [hp]
  · subst e1 e2
    rw [List.take_length]
    exact q
/-- the same where the environment is told by a predicate -/
theorem lc_mapE {t : RG} {re : RV} {vs : List Nat} {xs ys : List D} {e : Env} {W : List D → Env → Prop} (E : Env → Prop) (he : E e) (hl : xs.length = ys.length) (hz : xs.length ≤ 1000) (step : ∀ (i : Nat) (x y : D) (k : D → Env → Prop) (e' : Env), E e' → xs[i]? = some x → ys[i]? = some y → (∀ e3, E (backE e' e3 vs) → k y e3) → t x (wipeE e' vs) fun e1 => re e1 k)
    (q : ∀ e', E e' → W ys e') :
    ∃ I : Nat → List D → Env → Prop, I 0 [] e ∧ (∀ i x acc e', xs[i]? = some x → I i acc e' → t x (wipeE e' vs) fun e1 => rYes e1 fun b e2 => if b = true then re e2 fun y e3 => acc.length < sizeLine ∧ I (i + 1) (acc ++ [y]) (backE e' e3 vs) else I (i + 1) acc (backE e' e2 vs)) ∧ ∀ acc e', I xs.length acc e' → W acc e' := by
  refine ⟨fun i acc e' => E e' ∧ acc = ys.take i, ⟨he, rfl⟩, fun i x acc e' hx ⟨e1, e2⟩ => ?_, fun acc e' ⟨e1, e2⟩ => ?_⟩
  · subst e2
    have hi := (List.getElem?_eq_some_iff.mp hx).1
    have hy : ys[i]? = some (ys[i]'(by omega)) := List.getElem?_eq_getElem _
    refine step i x _ _ e' e1 hx hy fun e3 h3 => ⟨?_, h3, ?_⟩
    · rw [List.length_take]
      exact small64 (by omega)
    · rw [List.take_add_one, hy]
      rfl
  · subst e2
    rw [hl, List.take_length]
    exact q e' e1
theorem lcT_mapE {n : Nat} {ts : RGs} {re : RV} {vs : List Nat} {xss : List (List D)} {ys : List D} {e : Env} {W : List D → Env → Prop} (E : Env → Prop) (he : E e) (hl : xss.length = ys.length) (hz : xss.length ≤ 1000)
    (step : ∀ (i : Nat) (xs : List D) (y : D) (k : D → Env → Prop) (e' : Env), E e' → xss[i]? = some xs → ys[i]? = some y → (∀ e3, E (backE e' e3 vs) → k y e3) → xs.length = n ∧ ts xs (wipeE e' vs) fun e1 => re e1 k) (q : ∀ e', E e' → W ys e') :
    ∃ I : Nat → List D → Env → Prop, I 0 [] e ∧ (∀ i xs acc e', xss[i]? = some xs → I i acc e' → xs.length = n ∧ ts xs (wipeE e' vs) fun e1 => rYes e1 fun b e2 => if b = true then re e2 fun y e3 => acc.length < sizeLine ∧ I (i + 1) (acc ++ [y]) (backE e' e3 vs) else I (i + 1) acc (backE e' e2 vs)) ∧ ∀ acc e', I xss.length acc e' → W acc e' := by
  refine ⟨fun i acc e' => E e' ∧ acc = ys.take i, ⟨he, rfl⟩, fun i x acc e' hx ⟨e1, e2⟩ => ?_, fun acc e' ⟨e1, e2⟩ => ?_⟩
  · subst e2
    have hi := (List.getElem?_eq_some_iff.mp hx).1
    have hy : ys[i]? = some (ys[i]'(by omega)) := List.getElem?_eq_getElem _
    refine step i x _ _ e' e1 hx hy fun e3 h3 => ⟨?_, h3, ?_⟩
    · rw [List.length_take]
      exact small64 (by omega)
    · rw [List.take_add_one, hy]
      rfl
  · subst e2
    rw [hl, List.take_length]
    exact q e' e1
theorem lc_filterE {t : RG} {c : RT} {re : RV} {vs : List Nat} {xs : List D} {p : D → Bool} {g : D → D} {e : Env} {W : List D → Env → Prop} (E : Env → Prop) (he : E e) (hz : xs.length ≤ 1000)
    (step : ∀ (i : Nat) (x : D) (k1 : D → Env → Prop) (k2 : Env → Prop) (e' : Env), E e' → xs[i]? = some x → (p x = true → ∀ e3, E (backE e' e3 vs) → k1 (g x) e3) → (p x = false → ∀ e2, E (backE e' e2 vs) → k2 e2) → t x (wipeE e' vs) fun e1 => c e1 fun b e2 => if b = true then re e2 k1 else k2 e2)
    (q : ∀ e', E e' → W ((xs.filter p).map g) e') :
    ∃ I : Nat → List D → Env → Prop, I 0 [] e ∧ (∀ i x acc e', xs[i]? = some x → I i acc e' → t x (wipeE e' vs) fun e1 => c e1 fun b e2 => if b = true then re e2 fun y e3 => acc.length < sizeLine ∧ I (i + 1) (acc ++ [y]) (backE e' e3 vs) else I (i + 1) acc (backE e' e2 vs)) ∧ ∀ acc e', I xs.length acc e' → W acc e' := by
  refine ⟨fun i acc e' => E e' ∧ acc = ((xs.take i).filter p).map g, ⟨he, rfl⟩, fun i x acc e' hx ⟨e1, e2⟩ => ?_, fun acc e' ⟨e1, e2⟩ => ?_⟩
  · subst e2
    refine step i x _ _ e' e1 hx (fun hp e3 h3 => ⟨?_, h3, ?_⟩) (fun hp e2 h2 => ⟨h2, ?_⟩)
    · rw [List.length_map]
      refine Nat.lt_of_le_of_lt (Nat.le_trans (List.length_filter_le _ _) (List.length_take_le' _ _)) (small64 hz)
    · rw [List.take_add_one, hx, List.filter_append, List.map_append]
      simp [hp]
    · rw [List.take_add_one, hx, List.filter_append, List.map_append]
      simp [hp]
  · subst e2
    rw [List.take_length]
    exact q e' e1
/-- a sum of a book: its parts, its due -/
abbrev Sm := List Int × Rat
def zD (ns : List Int) : List D := ns.map PyData.int
def sumD (s : Sm) : D := .tuple [.tuple (zD s.1), qD s.2]
def sumsD (rows : List Sm) : D := .tuple (rows.map sumD)
def bookD (ns : List Str) (rows : List Sm) : D := .tuple [.tuple (ns.map PyData.str), sumsD rows]
/-- what a row is brought to -/
def lcmDen (row : List Rat) : Nat := row.foldl (fun l x => Nat.lcm l x.den) 1
def scaleRow (row : List Rat) : List Int := row.map fun x => Int.fdiv (lcmDen row) x.den * x.num
def gcdAll (ns : List Int) : Nat := ns.foldl (fun g x => Nat.gcd g x.natAbs) 0
def firstNZ (ns : List Int) : Int := (ns.filter fun n => decide (n ≠ 0)).headD 0
def sgnGcd (ns : List Int) : Int := if firstNZ ns < 0 then -(gcdAll ns : Int) else (gcdAll ns : Int)
def normInts (row : List Rat) : List Int := (scaleRow row).map fun n => Int.fdiv n (sgnGcd (scaleRow row))
def normRow (row : List Rat) (due : Rat) : Sm := (normInts row, due * Rat.divInt (lcmDen row) (sgnGcd (scaleRow row)))
theorem foldl_take {α β : Type} (f : β → α → β) (b : β) (xs : List α) (j : Nat) (x : α) (h : xs[j]? = some x) : (xs.take (j + 1)).foldl f b = f ((xs.take j).foldl f b) x := by
  rw [List.take_add_one, h, List.foldl_append]
  rfl
theorem cut_last {α : Type} (xs : List α) (y : α) : cut (xs ++ [y]) none (some (-1)) = xs := by
  show ((xs ++ [y]).drop 0).take ((if (-1 : Int) < 0 then ((-1 : Int) + ((xs ++ [y]).length : Nat)).toNat else min (-1 : Int).toNat (xs ++ [y]).length) - 0) = xs
  have e : ((-1 : Int) + ((xs ++ [y]).length : Nat)).toNat = xs.length := by
    rw [List.length_append, List.length_singleton]
    omega
  rw [if_pos (by decide), e, List.drop_zero, Nat.sub_zero, List.take_left]
theorem atI_neg1 {α : Type} (xs : List α) (y : α) : atI (xs ++ [y]) (-1) = some y := by
  unfold atI ixN
  have e : ((-1 : Int) + ((xs ++ [y]).length : Nat)).toNat = xs.length := by
    rw [List.length_append, List.length_singleton]
    omega
  rw [if_neg (by decide), if_pos (by rw [List.length_append, List.length_singleton]; omega), e]
  show (xs ++ [y])[xs.length]? = some y
  simp
theorem cut_take {α : Type} (xs : List α) (j : Nat) : cut xs none (some (j : Int)) = xs.take j := by
  unfold cut
  rw [HT.sIx_nat, HT.sIx_none, List.drop_zero, Nat.sub_zero]
  by_cases h : j ≤ xs.length
  · rw [Nat.min_eq_left h]
  · rw [Nat.min_eq_right (by omega), List.take_length, List.take_of_length_le (by omega)]
theorem cut_drop {α : Type} (xs : List α) (j : Nat) : cut xs (some (j : Int)) none = xs.drop j := by
  unfold cut
  rw [HT.sIx_nat, HT.sIx_none]
  by_cases h : j ≤ xs.length
  · rw [Nat.min_eq_left h, List.take_of_length_le (by rw [List.length_drop]; omega)]
  · rw [Nat.min_eq_right (by omega), List.drop_of_length_le (by omega), List.drop_of_length_le (by omega)]
    simp
end Pf
set_option Elab.async false
set_option linter.all false
set_option maxRecDepth 100000
set_option maxHeartbeats 4000000
set_option exponentiation.threshold 10000
/-! Pf: the plane of a book, plainly. -/
namespace Pf
open PySem PySem.Spec PyProof.Rows L2
def natD (ns : List Nat) : List D := ns.map fun n => .int (n : Nat)
def augRow (s : Sm) : List Rat := s.1.map (fun i : Int => (i : Rat)) ++ [s.2]
def augM (rows : List Sm) : List (List Rat) := rows.map augRow
def red (n : Nat) (rows : List Sm) : List (List Rat) × List Nat := redAll (augM rows) (List.range n)
def moveP (M : List (List Rat)) (ls : List Nat) (n c : Nat) : List Rat := (List.zip M ls).foldl (fun v p => v.set p.2 (0 - p.1.getD c 0)) ((List.replicate n (0 : Rat)).set c 1)
def freeP (ls : List Nat) (n : Nat) : List Nat := (List.range n).filter fun c => decide (c ∉ ls)
def movesP (M : List (List Rat)) (ls : List Nat) (n : Nat) : List (List Rat) := (freeP ls n).map (moveP M ls n)
def worldP (M : List (List Rat)) (ls : List Nat) (n : Nat) : List Rat := (List.zip M ls).foldl (fun v p => v.set p.2 (p.1.getD n 0)) (List.replicate n 0)
def voidB (n : Nat) (rows : List Sm) : Bool := ((red n rows).1.drop (red n rows).2.length).any fun r => decide (r.getD n 0 ≠ 0)
def tupQs (v : List Rat) : D := .tuple (v.map qD)
def planeD (n : Nat) (rows : List Sm) : D := if voidB n rows then .none else .tuple [tupQs (worldP (red n rows).1 (red n rows).2 n), .list ((movesP (red n rows).1 (red n rows).2 n).map rowD)]
def aWorldD (n : Nat) (rows : List Sm) : D := if voidB n rows then .none else tupQs (worldP (red n rows).1 (red n rows).2 n)
/-- what the program needs of a book -/
structure BookOk (n k : Nat) (rows : List Sm) : Prop where
  few : rows.length ≤ 400
  n2 : 2 ≤ n
  n4 : n ≤ 400
  wide : ∀ s ∈ rows, s.1.length = n
  kk : 3 * k ≤ 9000
  fit : ∀ j, ∀ r ∈ (redAll (augM rows) ((List.range n).take j)).1, ∀ x ∈ r, Fit k x
theorem aug_wide {n : Nat} {rows : List Sm} (h : ∀ s ∈ rows, s.1.length = n) : Wide (n + 1) (augM rows) := fun r hr => by
  obtain ⟨s, hs, rfl⟩ := List.mem_map.mp hr
  unfold augRow
  rw [List.length_append, List.length_map, h s hs]
  rfl
theorem redStep_lt {w : Nat} {st : List (List Rat) × List Nat} {c : Nat} (h : ∀ x ∈ st.2, x < w) (hc : c < w) : ∀ x ∈ (redStep st c).2, x < w := by
  unfold redStep
  split
  · exact h
  · intro x hx
    rcases List.mem_append.mp hx with hx | hx
    · exact h x hx
    · rw [List.mem_singleton.mp hx]; exact hc
theorem redAll_lt {w : Nat} : ∀ (cols : List Nat) {st : List (List Rat) × List Nat}, (∀ x ∈ st.2, x < w) → (∀ c ∈ cols, c < w) → ∀ x ∈ (cols.foldl redStep st).2, x < w
  | [], _, h, _ => h
  | c :: cols, _, h, hc => redAll_lt cols (redStep_lt h (hc c List.mem_cons_self)) fun d hd => hc d (List.mem_cons_of_mem _ hd)
theorem red_ok {n k : Nat} {rows : List Sm} (h : BookOk n k rows) : RedOk (n + 1) rows.length (red n rows) :=
  redAll_ok _ ⟨aug_wide h.wide, List.length_map _, Nat.zero_le _⟩
theorem red_lt (n : Nat) (rows : List Sm) : ∀ x ∈ (red n rows).2, x < n := redAll_lt _ (by simp) fun c hc => List.mem_range.mp hc
theorem red_fit {n k : Nat} {rows : List Sm} (h : BookOk n k rows) : ∀ r ∈ (red n rows).1, ∀ x ∈ r, Fit k x := by
  have := h.fit n
  rw [List.take_of_length_le (by rw [List.length_range]; exact Nat.le_refl _)] at this
  exact this
theorem inD_nat (i : Nat) (ls : List Nat) : inD (.int (i : Nat)) (natD ls) = decide (i ∈ ls) := by
  unfold inD natD
  rw [List.any_map]
  by_cases h : i ∈ ls
  · rw [decide_eq_true h, List.any_eq_true]
    exact ⟨i, h, by show (((i : Nat) : Int) == ((i : Nat) : Int)) = true; simp⟩
  · rw [decide_eq_false h, List.any_eq_false]
    intro j hj
    show ¬ (((j : Nat) : Int) == ((i : Nat) : Int)) = true
    intro z
    have : (j : Int) = (i : Int) := by simpa using z
    have : j = i := by omega
    exact h (this ▸ hj)
theorem flat_nat (ls : List Nat) : (natD ls).all flatD = true := by
  unfold natD
  rw [List.all_map]
  exact List.all_eq_true.mpr fun _ _ => rfl
theorem rngD_nat (n : Nat) : rngD 0 (n : Int) = natD (List.range n) := by
  unfold rngD natD
  rw [show (((n : Int) - 0).toNat) = n by omega]
  refine List.map_congr_left fun i _ => ?_
  rw [Int.zero_add]
theorem natD_len (ls : List Nat) : (natD ls).length = ls.length := List.length_map _
theorem enumD_at {α : Type} {f : α → D} {xs : List α} {i : Nat} {z : List D} (h : (enumD (xs.map f))[i]? = some z) : ∃ x, xs[i]? = some x ∧ z = [.int (i : Nat), f x] := by
  unfold enumD at h
  rw [List.getElem?_mapIdx, List.getElem?_map] at h
  cases hx : xs[i]? with
  | none => rw [hx] at h; simp at h
  | some x =>
    rw [hx] at h
    exact ⟨x, rfl, (Option.some.inj h).symm⟩
theorem rep_flat {α : Type} (n : Nat) (x : α) : (List.replicate n [x]).flatten = List.replicate n x := by
  induction n with
  | zero => rfl
  | succ n ih => rw [List.replicate_succ, List.flatten_cons, ih]; rfl
theorem zip_take_succ {α β γ : Type} (f : γ → α × β → γ) (a : γ) (xs : List α) (ys : List β) (j : Nat) (x : α) (y : β) (h : xs[j]? = some x) (h' : ys[j]? = some y) : ((List.zip xs ys).take (j + 1)).foldl f a = f (((List.zip xs ys).take j).foldl f a) (x, y) :=
  foldl_take f a _ j (x, y) (by rw [List.getElem?_zip_eq_some]; exact ⟨h, h'⟩)
theorem set_fold_len {α : Type} (g : α → Nat) (w : α → Rat) : ∀ (l : List α) (v : List Rat), (l.foldl (fun v p => v.set (g p) (w p)) v).length = v.length
  | [], _ => rfl
  | p :: l, v => by rw [List.foldl_cons, set_fold_len g w l, List.length_set]
theorem worldP_len (M : List (List Rat)) (ls : List Nat) (n : Nat) : (worldP M ls n).length = n := by
  unfold worldP
  rw [set_fold_len (fun p : List Rat × Nat => p.2) (fun p => p.1.getD n 0), List.length_replicate]
theorem moveP_len (M : List (List Rat)) (ls : List Nat) (n c : Nat) : (moveP M ls n c).length = n := by
  unfold moveP
  rw [set_fold_len (fun p : List Rat × Nat => p.2) (fun p => 0 - p.1.getD c 0), List.length_set, List.length_replicate]
end Pf
set_option Elab.async false
set_option linter.all false
set_option maxRecDepth 100000
set_option maxHeartbeats 4000000
set_option exponentiation.threshold 10000
/-! Pf: data without dicts, and how much of it. -/
namespace Pf
open PySem PySem.Spec PyProof.Rows L2
mutual
/-- no dict within; texts that can be laid -/
inductive Pln : D → Nat → Prop
  | non : Pln .none 1
  | bl (b : Bool) : Pln (.bool b) 1
  | int (i : Int) : Pln (.int i) 1
  | str (x : Str) : SeqAt.shaped (.str x) = true → Pln (.str x) 1
  | lst {xs : List D} {n : Nat} : PlnAll xs n → Pln (.list xs) (n + 1)
  | tup {xs : List D} {n : Nat} : PlnAll xs n → Pln (.tuple xs) (n + 1)
inductive PlnAll : List D → Nat → Prop
  | nil : PlnAll [] 0
  | cons {x : D} {xs : List D} {n m : Nat} : Pln x n → PlnAll xs m → PlnAll (x :: xs) (n + m)
end
theorem Pln.pos : ∀ {x : D} {n : Nat}, Pln x n → 0 < n
  | _, _, .non => Nat.one_pos
  | _, _, .bl _ => Nat.one_pos
  | _, _, .int _ => Nat.one_pos
  | _, _, .str _ _ => Nat.one_pos
  | _, _, .lst _ => Nat.succ_pos _
  | _, _, .tup _ => Nat.succ_pos _
theorem PlnAll.len : ∀ {xs : List D} {n : Nat}, PlnAll xs n → xs.length ≤ n
  | _, _, .nil => Nat.le_refl _
  | _, _, .cons h t => by
    have := h.pos
    have := t.len
    rw [List.length_cons]
    omega
theorem PlnAll.append : ∀ {xs ys : List D} {n m : Nat}, PlnAll xs n → PlnAll ys m → PlnAll (xs ++ ys) (n + m)
  | _, _, _, _, .nil, h => by rw [Nat.zero_add]; exact h
  | _, _, _, _, .cons a t, h => by
    rw [Nat.add_assoc]
    exact .cons a (t.append h)
theorem PlnAll.last {xs : List D} {x : D} : ∀ {n : Nat}, PlnAll (xs ++ [x]) n → ∃ a b, PlnAll xs a ∧ Pln x b ∧ n = a + b := by
  induction xs with
  | nil =>
    intro n h
    cases h with
    | cons a t =>
      cases t
      exact ⟨0, _, .nil, a, by omega⟩
  | cons y xs ih =>
    intro n h
    cases h with
    | cons a t =>
      obtain ⟨p, q, h1, h2, e⟩ := ih t
      exact ⟨_, q, .cons a h1, h2, by omega⟩
end Pf
set_option Elab.async false
set_option linter.all false
set_option maxRecDepth 100000
set_option maxHeartbeats 4000000
set_option exponentiation.threshold 10000
namespace K82
open PySem PySem.Spec PyProof.Rows L2 Pf
def topS (i : Nat) : Stmt := PySem.Challenge.pw_sumsbetray_k82_whole_row_form.main.body.getD i (.Pass ⟨0, 0, 0, 0⟩)
def qz (a b : Int) : D := .tuple [.int a, .int b]
abbrev d_ZERO : D := .tuple [.int 0, .int 1]
abbrev d_ONE : D := .tuple [.int 1, .int 1]
structure Gb (mg : Str → Option Value) : Prop where
  len : mg "len" = none
  int : mg "int" = none
  abs : mg "abs" = none
  tuple : mg "tuple" = none
  list : mg "list" = none
  max : mg "max" = none
  any : mg "any" = none
  all : mg "all" = none
  sorted : mg "sorted" = none
  str : mg "str" = none
  bool : mg "bool" = none
  set : mg "set" = none
  dict : mg "dict" = none
  isinstance : mg "isinstance" = none
  range : mg "range" = none
  zip : mg "zip" = none
  enumerate : mg "enumerate" = none
  gcd : mg "gcd" = some (.builtin "math.gcd")
  lcm : mg "lcm" = some (.builtin "math.lcm")
structure Gs (K : Fg) (mg : Str → Option Value) : Prop extends Gb mg where
  zero : GlobD K mg "ZERO" d_ZERO
  one : GlobD K mg "ONE" d_ONE
theorem Gs.ZERO {X : Cx} (g : Gs X.K X.mg) {pos : Pos} (hg : Gl X "ZERO" := by rfl) : QV X (.Name "ZERO" pos) (rC d_ZERO) := qv_globD g.zero hg
theorem Gs.ONE {X : Cx} (g : Gs X.K X.mg) {pos : Pos} (hg : Gl X "ONE" := by rfl) : QV X (.Name "ONE" pos) (rC d_ONE) := qv_globD g.one hg
theorem andR {A B : Prop} (b : B) (a : A) : A ∧ B := ⟨a, b⟩
/-- what a def's body has to do: its reading ends as the promise says -/
abbrev Ends (r : RS) (N : List Str) (os : List O) (Q : O → List O → Prop) : Prop := r { nx := fun e => finL e os (Q (.d .none)), rt := fun o e => finL e os (Q o), bk := fun _ => False, ct := fun _ => False } (env0 N os)
theorem decI {c : Prop} {inst : Decidable c} {f : ¬c → Prop} {g : c → Prop} (a : ∀ h : c, g h) (b : ∀ h : ¬c, f h) : Decidable.rec (motive := fun _ => Prop) f g inst := by
  cases inst with
  | isTrue h => exact a h
  | isFalse h => exact b h
theorem atE {α : Type} {o : Option α} {k : α → Prop} {z : α} (h : o = some z) (q : k z) : ∃ z, o = some z ∧ k z := ⟨z, h, q⟩
end K82
set_option Elab.async false
set_option linter.all false
set_option maxRecDepth 100000
set_option maxHeartbeats 4000000
set_option exponentiation.threshold 20000
set_option pp.deepTerms false
set_option pp.maxSteps 500
namespace K82
open PySem PySem.Spec PyProof.Rows L2 Pf
local macro_rules | `(tactic| walk_at "go") => `(tactic| (conv => whnf) <;> repeat ((first | refine atE rfl ?_ | refine andR ?_ ?_); (conv => whnf)))
local macro_rules | `(tactic| walk_at "wh") => `(tactic| conv => whnf)
local macro_rules | `(tactic| walk_at "len") => `(tactic| (intro os Q h; (repeat (obtain ⟨_, h⟩ := h)); subst_vars; rfl))
local macro_rules | `(tactic| walk_at "keep") => `(tactic| (intro os Q h; (repeat (obtain ⟨_, h⟩ := h)); subst_vars; simp [keepOk]))
local macro_rules | `(tactic| walk_at "mono") => `(tactic| (intro os k k' f; repeat (first | exact f _ _ | refine Exists.imp fun _ => ?_ | refine And.imp_right ?_ | refine forall_imp fun _ => ?_)))
/-! fractions -/
def sp_quotient_of : FSp := fun os Q => ∃ a b : Int, os = [.d (.int a), .d (.int b)] ∧ b ≠ 0 ∧ b.natAbs < 2 ^ 9000 ∧ Q (.d (qD (Rat.divInt a b))) os
def sp_plus_of : FSp := fun os Q => ∃ (r s : Rat) (k l : Nat), os = [.d (qD r), .d (qD s)] ∧ Fit k r ∧ Fit l s ∧ k + l ≤ 9000 ∧ Q (.d (qD (r + s))) os
def sp_less_of : FSp := fun os Q => ∃ (r s : Rat) (k l : Nat), os = [.d (qD r), .d (qD s)] ∧ Fit k r ∧ Fit l s ∧ k + l ≤ 9000 ∧ Q (.d (qD (r - s))) os
def sp_times_of : FSp := fun os Q => ∃ (r s : Rat) (k l : Nat), os = [.d (qD r), .d (qD s)] ∧ Fit k r ∧ Fit l s ∧ k + l ≤ 9000 ∧ Q (.d (qD (r * s))) os
def sp_over_of : FSp := fun os Q => ∃ (r s : Rat) (k l : Nat), os = [.d (qD r), .d (qD s)] ∧ Fit k r ∧ Fit l s ∧ k + l ≤ 9000 ∧ s ≠ 0 ∧ Q (.d (qD (r / s))) os
def sp_whole : FSp := fun os Q => ∃ n : Int, os = [.d (.int n)] ∧ Q (.d (qD (n : Rat))) os
def sp_scaled_by : FSp := fun os Q => ∃ (n : Int) (r : Rat) (k : Nat), os = [.d (.int n), .d (qD r)] ∧ Fit k r ∧ n.natAbs < 2 ^ 9000 ∧ k < 9000 ∧ Q (.d (qD ((n : Rat) * r))) os
/-! ### quotient_of -/
abbrev s_quotient_of : Stmt := topS 8
abbrev n_quotient_of : List Str := ["number", "other", "common"]
theorem sc_quotient_of : FnScope n_quotient_of ["number", "other"] (defScope s_quotient_of) := ⟨rfl, rfl, rfl, by decide +kernel, rfl, by decide +kernel, by decide +kernel⟩
def r_quotient_of : RS := (rSeq (rSet 2 (rCB fGcd (rACons (rN 0) (rACons (rN 1) rANil))))
  (rSeq (rIfS (rCmp bLt (rN 1) (rP (rC (.int 0)))) (rSet 2 (rO (rNeg (rVar 2)))) rNext)
  (rRet (rO (rTup (rCons (rD (rOp bFdiv (rN 0) (rN 2))) (rCons (rD (rOp bFdiv (rN 1) (rN 2))) rNil)))))))
theorem q_quotient_of {P : Program} {w : World} {K : Fg} {mg : Str → Option Value} {base : Heap} {f : Addr} (g : Gs K mg) (cdv : Value) (A : Around) (outer : List PySem.Env) (s : Shared) (H : Hp) (E : XK) (hr : Room 0 (A.deeper (envOfC "quotient_of" (defScope s_quotient_of) s.heap.objs.size f cdv))) :
    QSs (cxOf CX0 P w K mg base n_quotient_of "quotient_of" (defScope s_quotient_of) f cdv A outer s H E).nox [] (defBody s_quotient_of) r_quotient_of :=
  (qss_cons (qs_set 2 sc_quotient_of.nd (qe_gcd g.gcd (qa_cons (qp_var 0) (qa_cons (qp_var 1) qa_nil))))
  (qss_cons (qs_if (qt_lt (qp_var 1) (qv_int).p) (qss_one (qs_set 2 sc_quotient_of.nd (QV.o (qv_neg (qv_var 2))))) qss_nil)
  (qss_one (qs_ret (QV.o (qv_tup (ql_cons (QE.v (qe_fdiv (qp_var 0) (qp_var 2))) (ql_cons (QE.v (qe_fdiv (qp_var 1) (qp_var 2))) ql_nil))))))))

/-! ### plus_of -/
abbrev s_plus_of : Stmt := topS 10
abbrev n_plus_of : List Str := ["one", "other"]
theorem sc_plus_of : FnScope n_plus_of ["one", "other"] (defScope s_plus_of) := ⟨rfl, rfl, rfl, by decide +kernel, rfl, by decide +kernel, by decide +kernel⟩
def r_plus_of : RS := (rRet (rCall sp_quotient_of (rACons (rP (rD (rOp dAdd (rP (rD (rOp dMul (rP (rD (rOp dIx (rN 0) (rP (rC (.int 0)))))) (rP (rD (rOp dIx (rN 1) (rP (rC (.int 1))))))))) (rP (rD (rOp dMul (rP (rD (rOp dIx (rN 1) (rP (rC (.int 0)))))) (rP (rD (rOp dIx (rN 0) (rP (rC (.int 1)))))))))))) (rACons (rP (rD (rOp dMul (rP (rD (rOp dIx (rN 0) (rP (rC (.int 1)))))) (rP (rD (rOp dIx (rN 1) (rP (rC (.int 1))))))))) rANil))))
theorem q_plus_of {P : Program} {w : World} {K : Fg} {mg : Str → Option Value} {base : Heap} {f : Addr} (g : Gs K mg) (h_quotient_of : Has P w K mg base "quotient_of" ["number", "other"] 1 sp_quotient_of) (cdv : Value) (A : Around) (outer : List PySem.Env) (s : Shared) (H : Hp) (E : XK) (hr : Room 1 (A.deeper (envOfC "plus_of" (defScope s_plus_of) s.heap.objs.size f cdv))) :
    QSs (cxOf CX0 P w K mg base n_plus_of "plus_of" (defScope s_plus_of) f cdv A outer s H E).nox [] (defBody s_plus_of) r_plus_of :=
  (qss_one (qs_ret (qe_call h_quotient_of (hr.mono (by decide)) (qa_cons ((QE.v (qe_add ((QE.v (qe_mul ((qv_ix (qp_var 0) (qv_int).p)).p ((qv_ix (qp_var 1) (qv_int).p)).p))).p ((QE.v (qe_mul ((qv_ix (qp_var 1) (qv_int).p)).p ((qv_ix (qp_var 0) (qv_int).p)).p))).p))).p (qa_cons ((QE.v (qe_mul ((qv_ix (qp_var 0) (qv_int).p)).p ((qv_ix (qp_var 1) (qv_int).p)).p))).p qa_nil)))))

/-! ### less_of -/
abbrev s_less_of : Stmt := topS 11
abbrev n_less_of : List Str := ["one", "other"]
theorem sc_less_of : FnScope n_less_of ["one", "other"] (defScope s_less_of) := ⟨rfl, rfl, rfl, by decide +kernel, rfl, by decide +kernel, by decide +kernel⟩
def r_less_of : RS := (rRet (rCall sp_quotient_of (rACons (rP (rD (rOp bSub (rP (rD (rOp dMul (rP (rD (rOp dIx (rN 0) (rP (rC (.int 0)))))) (rP (rD (rOp dIx (rN 1) (rP (rC (.int 1))))))))) (rP (rD (rOp dMul (rP (rD (rOp dIx (rN 1) (rP (rC (.int 0)))))) (rP (rD (rOp dIx (rN 0) (rP (rC (.int 1)))))))))))) (rACons (rP (rD (rOp dMul (rP (rD (rOp dIx (rN 0) (rP (rC (.int 1)))))) (rP (rD (rOp dIx (rN 1) (rP (rC (.int 1))))))))) rANil))))
theorem q_less_of {P : Program} {w : World} {K : Fg} {mg : Str → Option Value} {base : Heap} {f : Addr} (g : Gs K mg) (h_quotient_of : Has P w K mg base "quotient_of" ["number", "other"] 1 sp_quotient_of) (cdv : Value) (A : Around) (outer : List PySem.Env) (s : Shared) (H : Hp) (E : XK) (hr : Room 1 (A.deeper (envOfC "less_of" (defScope s_less_of) s.heap.objs.size f cdv))) :
    QSs (cxOf CX0 P w K mg base n_less_of "less_of" (defScope s_less_of) f cdv A outer s H E).nox [] (defBody s_less_of) r_less_of :=
  (qss_one (qs_ret (qe_call h_quotient_of (hr.mono (by decide)) (qa_cons ((QE.v (qe_sub ((QE.v (qe_mul ((qv_ix (qp_var 0) (qv_int).p)).p ((qv_ix (qp_var 1) (qv_int).p)).p))).p ((QE.v (qe_mul ((qv_ix (qp_var 1) (qv_int).p)).p ((qv_ix (qp_var 0) (qv_int).p)).p))).p))).p (qa_cons ((QE.v (qe_mul ((qv_ix (qp_var 0) (qv_int).p)).p ((qv_ix (qp_var 1) (qv_int).p)).p))).p qa_nil)))))

/-! ### times_of -/
abbrev s_times_of : Stmt := topS 12
abbrev n_times_of : List Str := ["one", "other"]
theorem sc_times_of : FnScope n_times_of ["one", "other"] (defScope s_times_of) := ⟨rfl, rfl, rfl, by decide +kernel, rfl, by decide +kernel, by decide +kernel⟩
def r_times_of : RS := (rRet (rCall sp_quotient_of (rACons (rP (rD (rOp dMul (rP (rD (rOp dIx (rN 0) (rP (rC (.int 0)))))) (rP (rD (rOp dIx (rN 1) (rP (rC (.int 0))))))))) (rACons (rP (rD (rOp dMul (rP (rD (rOp dIx (rN 0) (rP (rC (.int 1)))))) (rP (rD (rOp dIx (rN 1) (rP (rC (.int 1))))))))) rANil))))
theorem q_times_of {P : Program} {w : World} {K : Fg} {mg : Str → Option Value} {base : Heap} {f : Addr} (g : Gs K mg) (h_quotient_of : Has P w K mg base "quotient_of" ["number", "other"] 1 sp_quotient_of) (cdv : Value) (A : Around) (outer : List PySem.Env) (s : Shared) (H : Hp) (E : XK) (hr : Room 1 (A.deeper (envOfC "times_of" (defScope s_times_of) s.heap.objs.size f cdv))) :
    QSs (cxOf CX0 P w K mg base n_times_of "times_of" (defScope s_times_of) f cdv A outer s H E).nox [] (defBody s_times_of) r_times_of :=
  (qss_one (qs_ret (qe_call h_quotient_of (hr.mono (by decide)) (qa_cons ((QE.v (qe_mul ((qv_ix (qp_var 0) (qv_int).p)).p ((qv_ix (qp_var 1) (qv_int).p)).p))).p (qa_cons ((QE.v (qe_mul ((qv_ix (qp_var 0) (qv_int).p)).p ((qv_ix (qp_var 1) (qv_int).p)).p))).p qa_nil)))))

/-! ### over_of -/
abbrev s_over_of : Stmt := topS 13
abbrev n_over_of : List Str := ["one", "other"]
theorem sc_over_of : FnScope n_over_of ["one", "other"] (defScope s_over_of) := ⟨rfl, rfl, rfl, by decide +kernel, rfl, by decide +kernel, by decide +kernel⟩
def r_over_of : RS := (rRet (rCall sp_quotient_of (rACons (rP (rD (rOp dMul (rP (rD (rOp dIx (rN 0) (rP (rC (.int 0)))))) (rP (rD (rOp dIx (rN 1) (rP (rC (.int 1))))))))) (rACons (rP (rD (rOp dMul (rP (rD (rOp dIx (rN 0) (rP (rC (.int 1)))))) (rP (rD (rOp dIx (rN 1) (rP (rC (.int 0))))))))) rANil))))
theorem q_over_of {P : Program} {w : World} {K : Fg} {mg : Str → Option Value} {base : Heap} {f : Addr} (g : Gs K mg) (h_quotient_of : Has P w K mg base "quotient_of" ["number", "other"] 1 sp_quotient_of) (cdv : Value) (A : Around) (outer : List PySem.Env) (s : Shared) (H : Hp) (E : XK) (hr : Room 1 (A.deeper (envOfC "over_of" (defScope s_over_of) s.heap.objs.size f cdv))) :
    QSs (cxOf CX0 P w K mg base n_over_of "over_of" (defScope s_over_of) f cdv A outer s H E).nox [] (defBody s_over_of) r_over_of :=
  (qss_one (qs_ret (qe_call h_quotient_of (hr.mono (by decide)) (qa_cons ((QE.v (qe_mul ((qv_ix (qp_var 0) (qv_int).p)).p ((qv_ix (qp_var 1) (qv_int).p)).p))).p (qa_cons ((QE.v (qe_mul ((qv_ix (qp_var 0) (qv_int).p)).p ((qv_ix (qp_var 1) (qv_int).p)).p))).p qa_nil)))))

/-! ### whole -/
abbrev s_whole : Stmt := topS 14
abbrev n_whole : List Str := ["number"]
theorem sc_whole : FnScope n_whole ["number"] (defScope s_whole) := ⟨rfl, rfl, rfl, by decide +kernel, rfl, by decide +kernel, by decide +kernel⟩
def r_whole : RS := (rRet (rO (rTup (rCons (rVar 0) (rCons (rC (.int 1)) rNil)))))
theorem q_whole {P : Program} {w : World} {K : Fg} {mg : Str → Option Value} {base : Heap} {f : Addr} (g : Gs K mg) (cdv : Value) (A : Around) (outer : List PySem.Env) (s : Shared) (H : Hp) (E : XK) (hr : Room 0 (A.deeper (envOfC "whole" (defScope s_whole) s.heap.objs.size f cdv))) :
    QSs (cxOf CX0 P w K mg base n_whole "whole" (defScope s_whole) f cdv A outer s H E).nox [] (defBody s_whole) r_whole :=
  (qss_one (qs_ret (QV.o (qv_tup (ql_cons (qv_var 0) (ql_cons qv_int ql_nil))))))

/-! ### scaled_by -/
abbrev s_scaled_by : Stmt := topS 15
abbrev n_scaled_by : List Str := ["number", "one"]
theorem sc_scaled_by : FnScope n_scaled_by ["number", "one"] (defScope s_scaled_by) := ⟨rfl, rfl, rfl, by decide +kernel, rfl, by decide +kernel, by decide +kernel⟩
def r_scaled_by : RS := (rRet (rCall sp_quotient_of (rACons (rP (rD (rOp dMul (rN 0) (rP (rD (rOp dIx (rN 1) (rP (rC (.int 0))))))))) (rACons (rP (rD (rOp dIx (rN 1) (rP (rC (.int 1)))))) rANil))))
theorem q_scaled_by {P : Program} {w : World} {K : Fg} {mg : Str → Option Value} {base : Heap} {f : Addr} (g : Gs K mg) (h_quotient_of : Has P w K mg base "quotient_of" ["number", "other"] 1 sp_quotient_of) (cdv : Value) (A : Around) (outer : List PySem.Env) (s : Shared) (H : Hp) (E : XK) (hr : Room 1 (A.deeper (envOfC "scaled_by" (defScope s_scaled_by) s.heap.objs.size f cdv))) :
    QSs (cxOf CX0 P w K mg base n_scaled_by "scaled_by" (defScope s_scaled_by) f cdv A outer s H E).nox [] (defBody s_scaled_by) r_scaled_by :=
  (qss_one (qs_ret (qe_call h_quotient_of (hr.mono (by decide)) (qa_cons ((QE.v (qe_mul (qp_var 0) ((qv_ix (qp_var 1) (qv_int).p)).p))).p (qa_cons ((qv_ix (qp_var 1) (qv_int).p)).p qa_nil)))))

theorem m_quotient_of (os : List O) (Q : O → List O → Prop) (h : sp_quotient_of os Q) : Ends r_quotient_of n_quotient_of os Q := by
  obtain ⟨a, b, rfl, hb, hl, q⟩ := h
  have ok := gcd_ok a b hb hl
  rw [qD_divInt a b hb] at q
  walk_at "go"
  · refine decI (fun h => ?_) (fun h => ?_)
    · rw [if_pos (of_decide_eq_true h)] at q ok
      walk_at "go"
      · exact q
      · exact (by decide : 2 ≤ sizeLine)
      · exact ok
      · exact ok
    · rw [if_neg (fun z => h (decide_eq_true z))] at q ok
      walk_at "go"
      · exact q
      · exact (by decide : 2 ≤ sizeLine)
      · exact ok
      · exact ok
  · trivial
theorem m_plus_of (os : List O) (Q : O → List O → Prop) (h : sp_plus_of os Q) : Ends r_plus_of n_plus_of os Q := by
  obtain ⟨r, s, k, l, rfl, hr, hs, hk, q⟩ := h
  walk_at "go"
  · exact ⟨_, _, rfl, den_ne r s, den_mul_lt hr.2 hs.2 hk, by rw [add_as]; exact q⟩
  · exact mul_fit hr.2 hs.2 (by omega) (by omega)
  · exact mul_fit hs.1 hr.2 (by omega) (by omega)
  · exact mul_fit hr.1 hs.2 (by omega) (by omega)
theorem m_less_of (os : List O) (Q : O → List O → Prop) (h : sp_less_of os Q) : Ends r_less_of n_less_of os Q := by
  obtain ⟨r, s, k, l, rfl, hr, hs, hk, q⟩ := h
  walk_at "go"
  · exact ⟨_, _, rfl, den_ne r s, den_mul_lt hr.2 hs.2 hk, by rw [sub_as]; exact q⟩
  · exact mul_fit hr.2 hs.2 (by omega) (by omega)
  · exact mul_fit hs.1 hr.2 (by omega) (by omega)
  · exact mul_fit hr.1 hs.2 (by omega) (by omega)
theorem m_times_of (os : List O) (Q : O → List O → Prop) (h : sp_times_of os Q) : Ends r_times_of n_times_of os Q := by
  obtain ⟨r, s, k, l, rfl, hr, hs, hk, q⟩ := h
  walk_at "go"
  · exact ⟨_, _, rfl, den_ne r s, den_mul_lt hr.2 hs.2 hk, by rw [mul_as]; exact q⟩
  · exact mul_fit hr.2 hs.2 (by omega) (by omega)
  · exact mul_fit hr.1 hs.1 (by omega) (by omega)
theorem m_over_of (os : List O) (Q : O → List O → Prop) (h : sp_over_of os Q) : Ends r_over_of n_over_of os Q := by
  obtain ⟨r, s, k, l, rfl, hr, hs, hk, h0, q⟩ := h
  have h1 : s.num ≠ 0 := fun z => h0 (Rat.num_eq_zero.mp z)
  walk_at "go"
  · refine ⟨_, _, rfl, Int.mul_ne_zero (den0 r) h1, ?_, by rw [div_as]; exact q⟩
    rw [Int.natAbs_mul]
    exact Nat.lt_of_lt_of_le (mul_lt hr.2 hs.1) (Nat.pow_le_pow_right (by decide) hk)
  · exact mul_fit hr.2 hs.1 (by omega) (by omega)
  · exact mul_fit hr.1 hs.2 (by omega) (by omega)
theorem m_whole (os : List O) (Q : O → List O → Prop) (h : sp_whole os Q) : Ends r_whole n_whole os Q := by
  obtain ⟨n, rfl, q⟩ := h
  walk_at "go"
  · exact q
  · exact (by decide : 2 ≤ sizeLine)
theorem m_scaled_by (os : List O) (Q : O → List O → Prop) (h : sp_scaled_by os Q) : Ends r_scaled_by n_scaled_by os Q := by
  obtain ⟨n, r, k, rfl, hr, hn, hk, q⟩ := h
  walk_at "go"
  · refine ⟨_, _, rfl, den0 r, ?_, by rw [int_as]; exact q⟩
    exact Nat.lt_of_lt_of_le hr.2 (Nat.pow_le_pow_right (by decide) (by omega))
  · exact mul_fit hn hr.1 (by omega) (by omega)
theorem f_quotient_of {P : Program} {w : World} {K : Fg} {mg : Str → Option Value} {base : Heap} {f : Addr} {fd : FuncData} (g : Gs K mg) (F : Fun K "quotient_of" "quotient_of" s_quotient_of f fd) : FnOk P w K mg base CX0 1 f fd ["number", "other"] (SpOf K sp_quotient_of) :=
  fn_ok F sc_quotient_of [] (fun cdv A outer s H E hr => q_quotient_of g cdv A outer s H E hr) (by walk_at "len") (by walk_at "keep") m_quotient_of
theorem mono_quotient_of : sp_quotient_of.Mono := by walk_at "mono"

theorem f_plus_of {P : Program} {w : World} {K : Fg} {mg : Str → Option Value} {base : Heap} {f : Addr} {fd : FuncData} (g : Gs K mg) (h_quotient_of : Has P w K mg base "quotient_of" ["number", "other"] 1 sp_quotient_of) (F : Fun K "plus_of" "plus_of" s_plus_of f fd) : FnOk P w K mg base CX0 2 f fd ["one", "other"] (SpOf K sp_plus_of) :=
  fn_ok F sc_plus_of [] (fun cdv A outer s H E hr => q_plus_of g h_quotient_of cdv A outer s H E hr) (by walk_at "len") (by walk_at "keep") m_plus_of
theorem mono_plus_of : sp_plus_of.Mono := by walk_at "mono"

theorem f_less_of {P : Program} {w : World} {K : Fg} {mg : Str → Option Value} {base : Heap} {f : Addr} {fd : FuncData} (g : Gs K mg) (h_quotient_of : Has P w K mg base "quotient_of" ["number", "other"] 1 sp_quotient_of) (F : Fun K "less_of" "less_of" s_less_of f fd) : FnOk P w K mg base CX0 2 f fd ["one", "other"] (SpOf K sp_less_of) :=
  fn_ok F sc_less_of [] (fun cdv A outer s H E hr => q_less_of g h_quotient_of cdv A outer s H E hr) (by walk_at "len") (by walk_at "keep") m_less_of
theorem mono_less_of : sp_less_of.Mono := by walk_at "mono"

theorem f_times_of {P : Program} {w : World} {K : Fg} {mg : Str → Option Value} {base : Heap} {f : Addr} {fd : FuncData} (g : Gs K mg) (h_quotient_of : Has P w K mg base "quotient_of" ["number", "other"] 1 sp_quotient_of) (F : Fun K "times_of" "times_of" s_times_of f fd) : FnOk P w K mg base CX0 2 f fd ["one", "other"] (SpOf K sp_times_of) :=
  fn_ok F sc_times_of [] (fun cdv A outer s H E hr => q_times_of g h_quotient_of cdv A outer s H E hr) (by walk_at "len") (by walk_at "keep") m_times_of
theorem mono_times_of : sp_times_of.Mono := by walk_at "mono"

theorem f_over_of {P : Program} {w : World} {K : Fg} {mg : Str → Option Value} {base : Heap} {f : Addr} {fd : FuncData} (g : Gs K mg) (h_quotient_of : Has P w K mg base "quotient_of" ["number", "other"] 1 sp_quotient_of) (F : Fun K "over_of" "over_of" s_over_of f fd) : FnOk P w K mg base CX0 2 f fd ["one", "other"] (SpOf K sp_over_of) :=
  fn_ok F sc_over_of [] (fun cdv A outer s H E hr => q_over_of g h_quotient_of cdv A outer s H E hr) (by walk_at "len") (by walk_at "keep") m_over_of
theorem mono_over_of : sp_over_of.Mono := by walk_at "mono"

theorem f_whole {P : Program} {w : World} {K : Fg} {mg : Str → Option Value} {base : Heap} {f : Addr} {fd : FuncData} (g : Gs K mg) (F : Fun K "whole" "whole" s_whole f fd) : FnOk P w K mg base CX0 1 f fd ["number"] (SpOf K sp_whole) :=
  fn_ok F sc_whole [] (fun cdv A outer s H E hr => q_whole g cdv A outer s H E hr) (by walk_at "len") (by walk_at "keep") m_whole
theorem mono_whole : sp_whole.Mono := by walk_at "mono"

theorem f_scaled_by {P : Program} {w : World} {K : Fg} {mg : Str → Option Value} {base : Heap} {f : Addr} {fd : FuncData} (g : Gs K mg) (h_quotient_of : Has P w K mg base "quotient_of" ["number", "other"] 1 sp_quotient_of) (F : Fun K "scaled_by" "scaled_by" s_scaled_by f fd) : FnOk P w K mg base CX0 2 f fd ["number", "one"] (SpOf K sp_scaled_by) :=
  fn_ok F sc_scaled_by [] (fun cdv A outer s H E hr => q_scaled_by g h_quotient_of cdv A outer s H E hr) (by walk_at "len") (by walk_at "keep") m_scaled_by
theorem mono_scaled_by : sp_scaled_by.Mono := by walk_at "mono"

end K82
set_option Elab.async false
set_option linter.all false
set_option maxRecDepth 100000
set_option maxHeartbeats 4000000
set_option exponentiation.threshold 20000
set_option pp.deepTerms false
set_option pp.maxSteps 500
namespace K82
open PySem PySem.Spec PyProof.Rows L2 Pf
local macro_rules | `(tactic| walk_at "go") => `(tactic| (conv => whnf) <;> repeat ((first | refine atE rfl ?_ | refine andR ?_ ?_); (conv => whnf)))
local macro_rules | `(tactic| walk_at "wh") => `(tactic| conv => whnf)
local macro_rules | `(tactic| walk_at "len") => `(tactic| (intro os Q h; (repeat (obtain ⟨_, h⟩ := h)); subst_vars; rfl))
local macro_rules | `(tactic| walk_at "keep") => `(tactic| (intro os Q h; (repeat (obtain ⟨_, h⟩ := h)); subst_vars; simp [keepOk]))
local macro_rules | `(tactic| walk_at "mono") => `(tactic| (intro os k k' f; repeat (first | exact f _ _ | refine Exists.imp fun _ => ?_ | refine And.imp_right ?_ | refine forall_imp fun _ => ?_)))
/-! rows -/
def sp_lead_row : FSp := fun os Q => ∃ (m : List (List Rat)) (done col : Nat), os = [.own (m.map rowD), .d (.int done), .d (.int col)] ∧ (∀ r ∈ m, col < r.length) ∧ m.length ≤ 1000 ∧ done ≤ m.length ∧
  (∀ i, done ≤ i → i < m.length → at2 m i col ≠ 0 → (∀ j, done ≤ j → j < i → at2 m j col = 0) → Q (.d (.int (i : Nat))) os) ∧ ((∀ j, done ≤ j → j < m.length → at2 m j col = 0) → Q (.d .none) os)
theorem mono_lead_row : sp_lead_row.Mono := fun os k k' f ⟨m, d, c, e, a1, a2, a3, a4, a5⟩ => ⟨m, d, c, e, a1, a2, a3, fun i h1 h2 h3 h4 => f _ _ (a4 i h1 h2 h3 h4), fun h => f _ _ (a5 h)⟩
def sp_divided : FSp := fun os Q => ∃ (row : List Rat) (p : Rat) (k : Nat), os = [.d (rowD row), .d (qD p)] ∧ p ≠ 0 ∧ (∀ x ∈ row, Fit k x) ∧ Fit k p ∧ k + k ≤ 9000 ∧ row.length ≤ 1000 ∧ Q (.own ((row.map (· / p)).map qD)) os
def sp_cleared : FSp := fun os Q => ∃ (row lead : List Rat) (col k : Nat), os = [.d (rowD row), .d (rowD lead), .d (.int col)] ∧ row.length = lead.length ∧ col < row.length ∧ (∀ x ∈ row, Fit k x) ∧ (∀ x ∈ lead, Fit k x) ∧ 3 * k ≤ 9000 ∧ row.length ≤ 1000 ∧
  Q (.d (rowD (clearRow row lead col))) os ∧ Q (.own ((clearRow row lead col).map qD)) os
theorem mono_cleared : sp_cleared.Mono := fun os k k' f ⟨a, b, c, d, e, a1, a2, a3, a4, a5, a6, a7, a8⟩ => ⟨a, b, c, d, e, a1, a2, a3, a4, a5, a6, f _ _ a7, f _ _ a8⟩
/-! ### lead_row -/
abbrev s_lead_row : Stmt := topS 17
abbrev n_lead_row : List Str := ["rows", "done", "column", "number"]
theorem sc_lead_row : FnScope n_lead_row ["rows", "done", "column"] (defScope s_lead_row) := ⟨rfl, rfl, rfl, by decide +kernel, rfl, by decide +kernel, by decide +kernel⟩
def r_lead_row : RS := (rSeq (rFor (rRng2 (rVar 1) (rD (rCB fLen (rACons (rN 0) rANil)))) (rGn 3) (rIfS (rCmp (dEq true) (rP (rD (rOp dIx (rP (rD (rOp dIx (rN 0) (rN 3)))) (rN 2)))) (rP (rC d_ZERO))) (rRet (rO (rVar 3))) rNext))
  (rRet (rO (rC .none))))
theorem q_lead_row {P : Program} {w : World} {K : Fg} {mg : Str → Option Value} {base : Heap} {f : Addr} (g : Gs K mg) (cdv : Value) (A : Around) (outer : List PySem.Env) (s : Shared) (H : Hp) (E : XK) (hr : Room 0 (A.deeper (envOfC "lead_row" (defScope s_lead_row) s.heap.objs.size f cdv))) :
    QSs (cxOf CX0 P w K mg base n_lead_row "lead_row" (defScope s_lead_row) f cdv A outer s H E).nox [0] (defBody s_lead_row) r_lead_row :=
  (qss_cons (qs_for PassesOwn.never rfl (qf_range2 g.range (qv_var 1) (QE.v (qe_len g.len (qa_cons (qp_var 0) qa_nil)))) (qg_name 3 sc_lead_row.nd) (qss_one (qs_if (qt_ne hr.units ((qv_ix ((qv_ix (qp_var 0) (qp_var 3))).p (qp_var 2))).p ((g.ZERO)).p) (qss_one (qs_ret (QV.o (qv_var 3)))) qss_nil)))
  (qss_one (qs_ret (QV.o qv_non))))

/-! ### divided -/
abbrev s_divided : Stmt := topS 18
abbrev n_divided : List Str := ["row", "lead", "one"]
theorem sc_divided : FnScope n_divided ["row", "lead"] (defScope s_divided) := ⟨rfl, rfl, rfl, by decide +kernel, rfl, by decide +kernel, by decide +kernel⟩
def r_divided : RS := (rRet (rLc (rFs (rVar 0)) (rGn 2) rYes (rD (rCall sp_over_of (rACons (rN 2) (rACons (rN 1) rANil)))) [2]))
theorem q_divided {P : Program} {w : World} {K : Fg} {mg : Str → Option Value} {base : Heap} {f : Addr} (g : Gs K mg) (h_over_of : Has P w K mg base "over_of" ["one", "other"] 2 sp_over_of) (cdv : Value) (A : Around) (outer : List PySem.Env) (s : Shared) (H : Hp) (E : XK) (hr : Room 2 (A.deeper (envOfC "divided" (defScope s_divided) s.heap.objs.size f cdv))) :
    QSs (cxOf CX0 P w K mg base n_divided "divided" (defScope s_divided) f cdv A outer s H E).nox [] (defBody s_divided) r_divided :=
  (qss_one (qs_ret (qe_lc (own := [("one", 2)]) rfl sc_divided.nd (qf_seq (qv_var 0)) (blkOk_by (by rfl)) (fun _ _ _ _ _ => (qg_name 2 sc_divided.nd)) (fun _ _ _ _ _ => qts_nil) (fun _ _ _ _ _ => (QE.v (qe_call h_over_of (hr.mono (by decide)) (qa_cons (qp_var 2) (qa_cons (qp_var 1) qa_nil))))))))

/-! ### cleared -/
abbrev s_cleared : Stmt := topS 19
abbrev n_cleared : List Str := ["row", "lead", "column", "factor", "one", "other"]
theorem sc_cleared : FnScope n_cleared ["row", "lead", "column"] (defScope s_cleared) := ⟨rfl, rfl, rfl, by decide +kernel, rfl, by decide +kernel, by decide +kernel⟩
def r_cleared : RS := (rSeq (rSet 3 (rO (rD (rOp dIx (rN 0) (rN 2)))))
  (rSeq (rIfS (rCmp (dEq false) (rN 3) (rP (rC d_ZERO))) (rRet (rO (rVar 0))) rNext)
  (rRet (rLcT (rZip (rVar 0) (rVar 1)) 2 (rGcons (rGn 4) (rGcons (rGn 5) rGnil)) rYes (rD (rCall sp_less_of (rACons (rN 4) (rACons (rP (rD (rCall sp_times_of (rACons (rN 3) (rACons (rN 5) rANil))))) rANil)))) [4, 5]))))
theorem q_cleared {P : Program} {w : World} {K : Fg} {mg : Str → Option Value} {base : Heap} {f : Addr} (g : Gs K mg) (h_less_of : Has P w K mg base "less_of" ["one", "other"] 2 sp_less_of) (h_times_of : Has P w K mg base "times_of" ["one", "other"] 2 sp_times_of) (cdv : Value) (A : Around) (outer : List PySem.Env) (s : Shared) (H : Hp) (E : XK) (hr : Room 2 (A.deeper (envOfC "cleared" (defScope s_cleared) s.heap.objs.size f cdv))) :
    QSs (cxOf CX0 P w K mg base n_cleared "cleared" (defScope s_cleared) f cdv A outer s H E).nox [] (defBody s_cleared) r_cleared :=
  (qss_cons (qs_set 3 sc_cleared.nd (QV.o (qv_ix (qp_var 0) (qp_var 2))))
  (qss_cons (qs_if (qt_eq hr.units (qp_var 3) ((g.ZERO)).p) (qss_one (qs_ret (QV.o (qv_var 0)))) qss_nil)
  (qss_one (qs_ret (qe_lcT (own := [("one", 4), ("other", 5)]) 2 rfl sc_cleared.nd (qf_zip g.zip (qv_var 0) (qv_var 1)) (blkOk_by (by rfl)) (fun _ _ _ _ _ => (qgs_cons (qg_name 4 sc_cleared.nd) (qgs_cons (qg_name 5 sc_cleared.nd) qgs_nil))) (fun _ _ _ _ _ => qts_nil) (fun _ _ _ _ _ => (QE.v (qe_call h_less_of (hr.mono (by decide)) (qa_cons (qp_var 4) (qa_cons ((QE.v (qe_call h_times_of (hr.mono (by decide)) (qa_cons (qp_var 3) (qa_cons (qp_var 5) qa_nil))))).p qa_nil))))))))))

theorem at2_of {m : List (List Rat)} {i j : Nat} {r : List Rat} {x : Rat} (h : m[i]? = some r) (h2 : r[j]? = some x) : at2 m i j = x := by
  unfold at2
  rw [List.getD_eq_getElem?_getD, List.getD_eq_getElem?_getD, h]
  show (r[j]?).getD 0 = x
  rw [h2]
  rfl
theorem getAt {α : Type} {xs : List α} {i : Nat} (h : i < xs.length) : ∃ x, xs[i]? = some x ∧ x ∈ xs := ⟨_, List.getElem?_eq_getElem h, List.getElem_mem h⟩
theorem ne_zero {x : Rat} : (!PyData.eqv (qD x) d_ZERO) = !decide (x = 0) := by
  rw [show d_ZERO = qD 0 from rfl, eqv_qD]
theorem eq_zero {x : Rat} : PyData.eqv (qD x) d_ZERO = decide (x = 0) := by
  rw [show d_ZERO = qD 0 from rfl, eqv_qD]
theorem m_lead_row (os : List O) (Q : O → List O → Prop) (h : sp_lead_row os Q) : Ends r_lead_row n_lead_row os Q := by
  obtain ⟨m, done, col, rfl, hw, hm, hd, q1, q2⟩ := h
  walk_at "go"
  · refine ⟨fun i e => (∃ o, e = [some (.own (m.map rowD)), some (.d (.int done)), some (.d (.int col)), o]) ∧ ∀ j, done ≤ j → j < done + i → at2 m j col = 0, ⟨⟨none, rfl⟩, by omega⟩, ?_, ?_⟩
    · rintro i x e hx ⟨⟨o, rfl⟩, hz⟩
      obtain ⟨ex, hi⟩ := rngD_at hx
      subst ex
      rw [List.length_map] at hi
      have hlt : done + i < m.length := by omega
      obtain ⟨r, hr, hrm⟩ := getAt hlt
      obtain ⟨x, hc, _⟩ := getAt (hw r hrm)
      walk_at "go"
      refine ⟨_, atI_map (i := done + i) hr, ?_⟩
      walk_at "go"
      refine ⟨_, atI_map hc, ?_⟩
      walk_at "go"
      · refine decI (fun h => ?_) (fun h => ?_)
        · walk_at "go"
          refine q1 (done + i) (by omega) hlt (fun z => ?_) hz
          rw [at2_of hr hc] at z
          have h : (!PyData.eqv (qD x) d_ZERO) = true := h
          simp [ne_zero, z] at h
        · walk_at "wh"
          refine ⟨⟨_, rfl⟩, fun j h1 h2 => ?_⟩
          by_cases hj : j = done + i
          · rw [hj, at2_of hr hc]
            have h : ¬ (!PyData.eqv (qD x) d_ZERO) = true := h
            simpa [ne_zero] using h
          · exact hz j h1 (by omega)
      · rfl
      · rfl
    · rintro e ⟨⟨o, rfl⟩, hz⟩
      walk_at "go"
      refine q2 fun j h1 h2 => hz j h1 ?_
      rw [rngD_len, List.length_map]
      omega
  · rw [List.length_map]
    have := hm
    omega
theorem m_divided (os : List O) (Q : O → List O → Prop) (h : sp_divided os Q) : Ends r_divided n_divided os Q := by
  obtain ⟨row, p, k, rfl, hp, hf, hfp, hk, hl, q⟩ := h
  walk_at "go"
  refine lc_map (ys := (row.map (· / p)).map qD) (by simp) (by simpa using hl) (fun i x y k' hx hy hk' => ?_) q
  obtain ⟨x, hx1, rfl⟩ := get_map hx
  rw [List.getElem?_map, List.getElem?_map, hx1] at hy
  cases hy
  walk_at "wh"
  exact ⟨x, p, k, k, rfl, hf x (List.mem_of_getElem? hx1), hfp, hk, hp, hk' _ rfl⟩
theorem clear_get {row lead : List Rat} {col i : Nat} {x y c : Rat} (hc : row[col]? = some c) (hx : row[i]? = some x) (hy : lead[i]? = some y) : (clearRow row lead col)[i]? = some (x - c * y) := by
  unfold clearRow
  rw [List.getElem?_zipWith, hx, hy, List.getD_eq_getElem?_getD, hc]
  rfl
theorem clear_zero {row lead : List Rat} {col : Nat} (hl : row.length = lead.length) (hc : row[col]? = some 0) : clearRow row lead col = row := by
  refine List.ext_getElem? fun i => ?_
  by_cases h : i < row.length
  · obtain ⟨x, hx, _⟩ := getAt h
    obtain ⟨y, hy, _⟩ := getAt (show i < lead.length by omega)
    rw [clear_get hc hx hy, hx]
    congr 1
    grind
  · unfold clearRow
    have h1 : row[i]? = none := List.getElem?_eq_none_iff.mpr (by omega)
    rw [h1]
    exact List.getElem?_eq_none_iff.mpr (by rw [List.length_zipWith]; omega)
theorem m_cleared (os : List O) (Q : O → List O → Prop) (h : sp_cleared os Q) : Ends r_cleared n_cleared os Q := by
  obtain ⟨row, lead, col, k, rfl, hl, hc, hf, hfl, hk, hs, q1, q2⟩ := h
  obtain ⟨c, hcr, hcm⟩ := getAt hc
  walk_at "go"
  refine ⟨_, atI_map hcr, ?_⟩
  walk_at "go"
  · refine decI (fun h => ?_) (fun h => ?_)
    · have h : PyData.eqv (qD c) d_ZERO = true := h
      have e : c = 0 := by simpa [eq_zero] using h
      subst e
      rw [clear_zero hl hcr] at q1
      walk_at "wh"
      exact q1
    · walk_at "go"
      refine lcT_map (ys := (clearRow row lead col).map qD) (by rw [zipD_len, List.length_map, clearRow_len hl]; omega) (by rw [zipD_len]; omega) (fun i xs y k' hx hy hk' => ?_) q2
      obtain ⟨x, y', hx1, hx2, rfl⟩ := zipD_at hx
      rw [List.getElem?_map, clear_get hcr hx1 hx2] at hy
      cases hy
      refine ⟨rfl, ?_⟩
      have fx := hf x (List.mem_of_getElem? hx1)
      have fy := hfl y' (List.mem_of_getElem? hx2)
      have fc := hf c hcm
      walk_at "wh"
      refine ⟨c, y', k, k, rfl, fc, fy, by omega, ?_⟩
      walk_at "wh"
      exact ⟨x, c * y', k, k + k, rfl, fx, fit_mul fc fy, by omega, hk' _ rfl⟩
  · rfl
  · rfl
theorem f_lead_row {P : Program} {w : World} {K : Fg} {mg : Str → Option Value} {base : Heap} {f : Addr} {fd : FuncData} (g : Gs K mg) (F : Fun K "lead_row" "lead_row" s_lead_row f fd) : FnOk P w K mg base CX0 1 f fd ["rows", "done", "column"] (SpOf K sp_lead_row) :=
  fn_ok F sc_lead_row [0] (fun cdv A outer s H E hr => q_lead_row g cdv A outer s H E hr) (by walk_at "len") (by walk_at "keep") m_lead_row

theorem f_divided {P : Program} {w : World} {K : Fg} {mg : Str → Option Value} {base : Heap} {f : Addr} {fd : FuncData} (g : Gs K mg) (h_over_of : Has P w K mg base "over_of" ["one", "other"] 2 sp_over_of) (F : Fun K "divided" "divided" s_divided f fd) : FnOk P w K mg base CX0 3 f fd ["row", "lead"] (SpOf K sp_divided) :=
  fn_ok F sc_divided [] (fun cdv A outer s H E hr => q_divided g h_over_of cdv A outer s H E hr) (by walk_at "len") (by walk_at "keep") m_divided
theorem mono_divided : sp_divided.Mono := by walk_at "mono"

theorem f_cleared {P : Program} {w : World} {K : Fg} {mg : Str → Option Value} {base : Heap} {f : Addr} {fd : FuncData} (g : Gs K mg) (h_less_of : Has P w K mg base "less_of" ["one", "other"] 2 sp_less_of) (h_times_of : Has P w K mg base "times_of" ["one", "other"] 2 sp_times_of) (F : Fun K "cleared" "cleared" s_cleared f fd) : FnOk P w K mg base CX0 3 f fd ["row", "lead", "column"] (SpOf K sp_cleared) :=
  fn_ok F sc_cleared [] (fun cdv A outer s H E hr => q_cleared g h_less_of h_times_of cdv A outer s H E hr) (by walk_at "len") (by walk_at "keep") m_cleared

end K82
set_option Elab.async false
set_option linter.all false
set_option maxRecDepth 100000
set_option maxHeartbeats 4000000
set_option exponentiation.threshold 20000
set_option pp.deepTerms false
set_option pp.maxSteps 500
namespace K82
open PySem PySem.Spec PyProof.Rows L2 Pf
local macro_rules | `(tactic| walk_at "go") => `(tactic| (conv => whnf) <;> repeat ((first | refine atE rfl ?_ | refine andR ?_ ?_); (conv => whnf)))
local macro_rules | `(tactic| walk_at "wh") => `(tactic| conv => whnf)
local macro_rules | `(tactic| walk_at "len") => `(tactic| (intro os Q h; (repeat (obtain ⟨_, h⟩ := h)); subst_vars; rfl))
local macro_rules | `(tactic| walk_at "keep") => `(tactic| (intro os Q h; (repeat (obtain ⟨_, h⟩ := h)); subst_vars; simp [keepOk]))
local macro_rules | `(tactic| walk_at "mono") => `(tactic| (intro os k k' f; repeat (first | exact f _ _ | refine Exists.imp fun _ => ?_ | refine And.imp_right ?_ | refine forall_imp fun _ => ?_)))
/-! the elimination -/
def sp_reduced : FSp := fun os Q => ∃ (m : List (List Rat)) (cols : List Nat) (w k : Nat), os = [.d (matD m), .d (.list (natD cols))] ∧ m.length ≤ 500 ∧ Wide w m ∧ w ≤ 500 ∧ (∀ c ∈ cols, c < w) ∧ 3 * k ≤ 9000 ∧
  (∀ j, ∀ r ∈ (redAll m (cols.take j)).1, ∀ x ∈ r, Fit k x) ∧ Q (.d (.tuple [matD (redAll m cols).1, .list (natD (redAll m cols).2)])) os
/-! ### reduced -/
abbrev s_reduced : Stmt := topS 20
abbrev n_reduced : List Str := ["rows", "columns", "row", "leads", "column", "number", "done", "other"]
theorem sc_reduced : FnScope n_reduced ["rows", "columns"] (defScope s_reduced) := ⟨rfl, rfl, rfl, by decide +kernel, rfl, by decide +kernel, by decide +kernel⟩
def r_reduced : RS := (rSeq (rSet 0 (rLc (rFs (rVar 0)) (rGn 2) rYes (rD (rCB fList (rACons (rN 2) rANil))) [2]))
  (rSeq (rSet 3 (rLst rNil))
  (rSeq (rFor (rFs (rVar 1)) (rGn 4) (rSeq (rSet 5 (rCall sp_lead_row (rACons (rN 0) (rACons (rP (rD (rCB fLen (rACons (rN 3) rANil)))) (rACons (rN 4) rANil)))))
  (rIfS (rCmp (dIsN true) (rN 5) (rP (rC .none))) (rSeq (rSet 6 (rCB fLen (rACons (rN 3) rANil)))
  (rSeq (rSwap 0 (rTup (rCons (rD (rOp dIx (rN 0) (rN 5))) (rCons (rD (rOp dIx (rN 0) (rN 6))) rNil))) (rVar 6) (rVar 5))
  (rSeq (rSetIx 0 (rD (rCall sp_divided (rACons (rP (rD (rOp dIx (rN 0) (rN 6)))) (rACons (rP (rD (rOp dIx (rP (rD (rOp dIx (rN 0) (rN 6)))) (rN 4)))) rANil)))) (rVar 6))
  (rSeq (rFor (rRng1 (rD (rCB fLen (rACons (rN 0) rANil)))) (rGn 7) (rIfS (rCmp (dEq true) (rN 7) (rN 6)) (rSetIx 0 (rD (rCall sp_cleared (rACons (rP (rD (rOp dIx (rN 0) (rN 7)))) (rACons (rP (rD (rOp dIx (rN 0) (rN 6)))) (rACons (rN 4) rANil))))) (rVar 7)) rNext))
  (rDrop (rApp 3 (rVar 4))))))) rNext)))
  (rRet (rO (rTup (rCons (rVar 0) (rCons (rVar 3) rNil))))))))
theorem q_reduced {P : Program} {w : World} {K : Fg} {mg : Str → Option Value} {base : Heap} {f : Addr} (g : Gs K mg) (h_lead_row : Has P w K mg base "lead_row" ["rows", "done", "column"] 1 sp_lead_row) (h_divided : Has P w K mg base "divided" ["row", "lead"] 3 sp_divided) (h_cleared : Has P w K mg base "cleared" ["row", "lead", "column"] 3 sp_cleared) (cdv : Value) (A : Around) (outer : List PySem.Env) (s : Shared) (H : Hp) (E : XK) (hr : Room 3 (A.deeper (envOfC "reduced" (defScope s_reduced) s.heap.objs.size f cdv))) :
    QSs (cxOf CX0 P w K mg base n_reduced "reduced" (defScope s_reduced) f cdv A outer s H E).nox [] (defBody s_reduced) r_reduced :=
  (qss_cons (qs_setLc (own := [("row", 2)]) 0 rfl sc_reduced.nd (qf_seq (qv_var 0)) (blkOk_by (by rfl)) (fun _ _ _ _ _ => (qg_name 2 sc_reduced.nd)) (fun _ _ _ _ _ => qts_nil) (fun _ _ _ _ _ => (QE.v (qe_list rfl g.list (qa_cons (qp_var 2) qa_nil)))))
  (qss_cons (qs_set 3 sc_reduced.nd (qe_lst ql_nil))
  (qss_cons (qs_for PassesOwn.never rfl (qf_seq (qv_var 1)) (qg_name 4 sc_reduced.nd) (qss_cons (qs_set 5 sc_reduced.nd (qe_call h_lead_row (hr.mono (by decide)) (qa_cons (qp_var 0) (qa_cons ((QE.v (qe_len g.len (qa_cons (qp_var 3) qa_nil)))).p (qa_cons (qp_var 4) qa_nil)))))
  (qss_one (qs_if (qt_notN (qp_var 5) (qv_non).p) (qss_cons (qs_set 6 sc_reduced.nd (qe_len g.len (qa_cons (qp_var 3) qa_nil)))
  (qss_cons (qs_swap 0 rfl (qv_tup (ql_cons (qv_ix (qp_var 0) (qp_var 5)) (ql_cons (qv_ix (qp_var 0) (qp_var 6)) ql_nil))) (qv_var 6) (qv_var 5))
  (qss_cons (qs_setIx 0 (QE.v (qe_call h_divided (hr.mono (by decide)) (qa_cons ((qv_ix (qp_var 0) (qp_var 6))).p (qa_cons ((qv_ix ((qv_ix (qp_var 0) (qp_var 6))).p (qp_var 4))).p qa_nil)))) (qv_var 6))
  (qss_cons (qs_for PassesOwn.never rfl (qf_range1 g.range (QE.v (qe_len g.len (qa_cons (qp_var 0) qa_nil)))) (qg_name 7 sc_reduced.nd) (qss_one (qs_if (qt_ne hr.units (qp_var 7) (qp_var 6)) (qss_one (qs_setIx 0 (QE.v (qe_call h_cleared (hr.mono (by decide)) (qa_cons ((qv_ix (qp_var 0) (qp_var 7))).p (qa_cons ((qv_ix (qp_var 0) (qp_var 6))).p (qa_cons (qp_var 4) qa_nil))))) (qv_var 7))) qss_nil)))
  (qss_one (qs_expr (qe_append 3 (qv_var 4)))))))) qss_nil))))
  (qss_one (qs_ret (QV.o (qv_tup (ql_cons (qv_var 0) (ql_cons (qv_var 3) ql_nil)))))))))

theorem map_set2 {α β : Type} {f : α → β} {xs : List α} {i : Nat} {x : α} : (xs.map f).set i (f x) = (xs.set i x).map f := List.map_set.symm
theorem m_reduced (os : List O) (Q : O → List O → Prop) (h : sp_reduced os Q) : Ends r_reduced n_reduced os Q := by
  obtain ⟨m, cols, w, k, rfl, hm, hw, hwl, hc, hk, hf, q⟩ := h
  walk_at "go"
  refine lc_map (ys := m.map rowD) rfl (by rw [List.length_map]; omega) (fun i x y k' hx hy hk' => ?_) ?_
  · obtain ⟨r, hr, rfl⟩ := get_map hx
    rw [List.getElem?_map, hr] at hy
    cases hy
    walk_at "wh"
    exact hk' _ rfl
  walk_at "go"
  · refine ⟨fun j e => ∃ o2 o4 o5 o6 o7, e = [some (.own ((redAll m (cols.take j)).1.map rowD)), some (.d (.list (natD cols))), o2, some (.own (natD (redAll m (cols.take j)).2)), o4, o5, o6, o7], ⟨_, _, _, _, _, rfl⟩, ?_, ?_⟩
    · rintro j x e hx ⟨o2, o4, o5, o6, o7, rfl⟩
      obtain ⟨c, hcj, rfl⟩ := get_map hx
      have ok0 : RedOk w m.length (redAll m (cols.take j)) := redAll_ok _ ⟨hw, rfl, Nat.zero_le _⟩
      have step := redAll_succ m cols j c hcj
      have f1 := hf (j + 1)
      have f0 := hf j
      rw [step] at f1
      generalize redAll m (cols.take j) = st at *
      obtain ⟨M, ls⟩ := st
      have hM : M.length = m.length := ok0.len
      have hcw : c < w := hc c (List.mem_of_getElem? hcj)
      have hls : (natD ls).length = ls.length := List.length_map _
      walk_at "wh"
      refine ⟨M, (natD ls).length, c, rfl, fun r hr => by rw [ok0.wide r hr]; exact hcw, by omega, by rw [hls, hM]; exact ok0.few, fun i h1 h2 h3 h4 => ?_, fun h1 => ?_⟩
      · rw [hls] at h1 h4
        have e := findLead_some h1 h2 h3 h4
        have es : redStep (M, ls) c = (elim M ls.length i c, ls ++ [c]) := by
          unfold redStep
          dsimp only
          rw [e]
        rw [es] at f1 step
        have hd : ls.length < M.length := by omega
        obtain ⟨ri, hri, hrim⟩ := getAt h2
        obtain ⟨rd, hrd, hrdm⟩ := getAt hd
        have gi := getD_of hri
        have gd := getD_of hrd
        obtain ⟨p, hp, hpm⟩ := getAt (show c < ri.length by rw [ok0.wide ri hrim]; exact hcw)
        have hpe : at2 M i c = p := at2_of hri hp
        have hp0 : p ≠ 0 := by rw [← hpe]; exact h3
        have eM1 : (M.set ls.length ri).set i rd = (M.set ls.length (M.getD i [])).set i (M.getD ls.length []) := by rw [gi, gd]
        have eS : ((M.set ls.length ri).set i rd).set ls.length (ri.map (· / p)) = swapDiv M ls.length i c := by
          unfold swapDiv
          rw [gi, gd, hpe]
        have hM1d : ((M.set ls.length ri).set i rd)[ls.length]? = some ri := by
          by_cases z : i = ls.length
          · rw [z] at hri
            rw [hrd] at hri
            cases hri
            rw [z, List.getElem?_set_self (by rw [List.length_set]; exact hd)]
          · rw [List.getElem?_set_ne z, List.getElem?_set_self hd]
        have lenM1 : ((M.set ls.length ri).set i rd).length = M.length := by simp
        have hSd : (swapDiv M ls.length i c)[ls.length]? = some (ri.map (· / p)) := by
          rw [← eS, List.getElem?_set_self (by rw [lenM1]; exact hd)]
        have hSrow : ∀ (t : Nat) (r : List Rat), (swapDiv M ls.length i c)[t]? = some r → t ≠ ls.length → r ∈ M := fun t r h ht => by
          rw [← eS, List.getElem?_set_ne (Ne.symm ht)] at h
          by_cases z : i = t
          · subst z
            rw [List.getElem?_set_self (by rw [List.length_set]; exact h2)] at h
            cases h
            exact hrdm
          · rw [List.getElem?_set_ne z, List.getElem?_set_ne (Ne.symm ht)] at h
            exact List.mem_of_getElem? h
        have lS := swapDiv_len M ls.length i c
        have wS : Wide w (swapDiv M ls.length i c) := ok0.wide.swapDiv hd h2
        have gSd := getD_of hSd
        have fl : ∀ x ∈ ri.map (· / p), Fit k x := f1 _ (List.mem_of_getElem? (i := ls.length) (by
          show (clearTo (swapDiv M ls.length i c) ls.length c M.length)[ls.length]? = _
          rw [clearTo_get hSd, if_neg (by omega)]))
        walk_at "go"
        refine ⟨_, atI_map hri, ?_⟩
        walk_at "go"
        refine ⟨_, atI_map (i := (natD ls).length) (by rw [hls]; exact hrd), ?_⟩
        walk_at "go"
        · refine ⟨ls.length, by rw [hls]; exact ixN_nat (by rw [List.length_map]; exact hd), ?_⟩
          walk_at "go"
          refine ⟨i, ixN_nat (by rw [List.length_set, List.length_map]; exact h2), ?_⟩
          walk_at "go"
          rw [map_set2, map_set2]
          refine ⟨_, atI_map (i := (natD ls).length) (by rw [hls]; exact hM1d), ?_⟩
          walk_at "go"
          refine ⟨_, atI_map (i := (natD ls).length) (by rw [hls]; exact hM1d), ?_⟩
          walk_at "go"
          refine ⟨_, atI_map hp, ?_⟩
          walk_at "wh"
          refine ⟨ri, p, k, rfl, hp0, f0 ri hrim, f0 ri hrim p hpm, by omega, by rw [ok0.wide ri hrim]; omega, ?_⟩
          walk_at "wh"
          refine ⟨ls.length, by rw [hls]; exact ixN_nat (by rw [List.length_map, lenM1]; exact hd), ?_⟩
          rw [show PyData.list ((ri.map (· / p)).map qD) = rowD (ri.map (· / p)) from rfl]
          have hL : (clearTo (swapDiv M ls.length i c) ls.length c 0).map rowD = (((M.set ls.length ri).set i rd).map rowD).set ls.length (rowD (ri.map (· / p))) := by
            rw [clearTo_zero, ← eS, List.map_set]
          have lenAll : ((((M.set ls.length ri).set i rd).map rowD).set ls.length (rowD (ri.map (· / p)))).length = M.length := by
            rw [List.length_set, List.length_map, lenM1]
          walk_at "go"
          · refine ⟨fun t e => ∃ o7, e = [some (.own ((clearTo (swapDiv M ls.length i c) ls.length c t).map rowD)), some (.d (.list (natD cols))), o2, some (.own (natD ls)), some (.d (.int (c : Nat))), some (.d (.int (i : Nat))), some (.d (.int ((natD ls).length : Nat))), o7], ⟨_, by rw [hL]; rfl⟩, ?_, ?_⟩
            · rintro t x e hx ⟨o7, rfl⟩
              obtain ⟨ex, ht⟩ := rngD_at hx
              subst ex
              have ht : t < M.length := by
                have e2 : ((M, ls).fst.set ls.length ri) = M.set ls.length ri := rfl
                rw [e2, lenAll] at ht
                omega
              obtain ⟨r, hr, hrm⟩ := getAt (show t < (swapDiv M ls.length i c).length by rw [lS]; exact ht)
              walk_at "go"
              refine decI (fun h => ?_) (fun h => ?_)
              · have h : (!decide ((0 + (t : Nat) : Int) = ((natD ls).length : Nat))) = true := h
                have hne : t ≠ ls.length := fun z => by
                  rw [hls, z] at h
                  simp at h
                have hget : (clearTo (swapDiv M ls.length i c) ls.length c t)[t]? = some r := by rw [clearTo_get hr, if_neg (by omega)]
                have hgetd : (clearTo (swapDiv M ls.length i c) ls.length c t)[ls.length]? = some (ri.map (· / p)) := by rw [clearTo_get hSd, if_neg (by omega)]
                have ez : (0 + (t : Nat) : Int) = ((t : Nat) : Int) := Int.zero_add _
                walk_at "go"
                refine ⟨rowD r, by rw [ez]; exact atI_map hget, ?_⟩
                walk_at "go"
                refine ⟨_, atI_map (i := (natD ls).length) (by rw [hls]; exact hgetd), ?_⟩
                walk_at "wh"
                have wr : r.length = w := wS.get hr
                have wl : (ri.map (· / p)).length = w := by rw [List.length_map]; exact ok0.wide ri hrim
                have key : (clearTo (swapDiv M ls.length i c) ls.length c (t + 1)).map rowD = ((clearTo (swapDiv M ls.length i c) ls.length c t).map rowD).set t (rowD (clearRow r (ri.map (· / p)) c)) := by
                  rw [clearTo_next hne hr, gSd, List.map_set]
                have htl : t < ((clearTo (swapDiv M ls.length i c) ls.length c t).map rowD).length := by rw [List.length_map, clearTo_len, lS]; exact ht
                refine ⟨r, ri.map (· / p), c, k, rfl, by rw [wr, wl], by rw [wr]; exact hcw, f0 r (hSrow t r hr hne), fl, hk, by rw [wr]; omega, ?_, ?_⟩
                · walk_at "wh"
                  refine ⟨t, by rw [ez]; exact ixN_nat htl, ?_⟩
                  walk_at "wh"
                  rw [key]
                  exact ⟨_, rfl⟩
                · walk_at "wh"
                  refine ⟨t, by rw [ez]; exact ixN_nat htl, ?_⟩
                  walk_at "wh"
                  rw [key]
                  exact ⟨_, rfl⟩
              · have h : ¬ (!decide ((0 + (t : Nat) : Int) = ((natD ls).length : Nat))) = true := h
                have heq : t = ls.length := by
                  rw [hls] at h
                  have h2 : ((t : Nat) : Int) = ((ls.length : Nat) : Int) := by simpa using h
                  omega
                walk_at "wh"
                rw [clearTo_skip heq]
                exact ⟨_, rfl⟩
            · rintro e ⟨o7, rfl⟩
              walk_at "go"
              · rw [step]
                refine ⟨o2, some (.d (.int (c : Nat))), some (.d (.int (i : Nat))), some (.d (.int ((natD ls).length : Nat))), o7, ?_⟩
                have e1 : (rngD 0 (((((M, ls).fst.set ls.length ri).set i rd).map rowD).set ls.length (rowD (ri.map (· / p)))).length).length = M.length := by
                  rw [rngD_len]
                  rw [show ((M, ls).fst.set ls.length ri) = M.set ls.length ri from rfl, lenAll]
                  omega
                rw [e1]
                show _ = [some (.own ((elim M ls.length i c).map rowD)), some (.d (.list (natD cols))), o2, some (.own (natD (ls ++ [c]))), some (.d (.int (c : Nat))), some (.d (.int (i : Nat))), some (.d (.int ((natD ls).length : Nat))), o7]
                rw [show natD (ls ++ [c]) = natD ls ++ [.int (c : Nat)] from List.map_append]
                rfl
              · show (natD ls).length < sizeLine
                rw [hls]
                exact small64 (by omega)
          · rw [show ((M, ls).fst.set ls.length ri) = M.set ls.length ri from rfl, lenAll]
            omega
          · rw [show ((M, ls).fst.set ls.length ri) = M.set ls.length ri from rfl, lenAll]
            omega
        · exact (by decide : 2 ≤ sizeLine)
      · rw [hls] at h1
        have e := findLead_none h1
        have es : redStep (M, ls) c = (M, ls) := by
          unfold redStep
          dsimp only
          rw [e]
        walk_at "wh"
        rw [step, es]
        exact ⟨_, _, _, _, _, rfl⟩
    · rintro e ⟨o2, o4, o5, o6, o7, rfl⟩
      rw [show (natD cols).length = cols.length from List.length_map _, List.take_length]
      walk_at "go"
      · exact q
      · exact (by decide : 2 ≤ sizeLine)
  · exact Nat.zero_le _
theorem f_reduced {P : Program} {w : World} {K : Fg} {mg : Str → Option Value} {base : Heap} {f : Addr} {fd : FuncData} (g : Gs K mg) (h_lead_row : Has P w K mg base "lead_row" ["rows", "done", "column"] 1 sp_lead_row) (h_divided : Has P w K mg base "divided" ["row", "lead"] 3 sp_divided) (h_cleared : Has P w K mg base "cleared" ["row", "lead", "column"] 3 sp_cleared) (F : Fun K "reduced" "reduced" s_reduced f fd) : FnOk P w K mg base CX0 4 f fd ["rows", "columns"] (SpOf K sp_reduced) :=
  fn_ok F sc_reduced [] (fun cdv A outer s H E hr => q_reduced g h_lead_row h_divided h_cleared cdv A outer s H E hr) (by walk_at "len") (by walk_at "keep") m_reduced
theorem mono_reduced : sp_reduced.Mono := by walk_at "mono"

end K82
set_option Elab.async false
set_option linter.all false
set_option maxRecDepth 100000
set_option maxHeartbeats 4000000
set_option exponentiation.threshold 20000
set_option pp.deepTerms false
set_option pp.maxSteps 500
namespace K82
open PySem PySem.Spec PyProof.Rows L2 Pf
local macro_rules | `(tactic| walk_at "go") => `(tactic| (conv => whnf) <;> repeat ((first | refine atE rfl ?_ | refine andR ?_ ?_); (conv => whnf)))
local macro_rules | `(tactic| walk_at "wh") => `(tactic| conv => whnf)
local macro_rules | `(tactic| walk_at "len") => `(tactic| (intro os Q h; (repeat (obtain ⟨_, h⟩ := h)); subst_vars; rfl))
local macro_rules | `(tactic| walk_at "keep") => `(tactic| (intro os Q h; (repeat (obtain ⟨_, h⟩ := h)); subst_vars; simp [keepOk]))
local macro_rules | `(tactic| walk_at "mono") => `(tactic| (intro os k k' f; repeat (first | exact f _ _ | refine Exists.imp fun _ => ?_ | refine And.imp_right ?_ | refine forall_imp fun _ => ?_)))
/-! what a row is brought to -/
structure NormOk (row : List Rat) (k : Nat) : Prop where
  few : row.length ≤ 500
  some : ∃ x ∈ row, x ≠ 0
  lcm : ∀ j, lcmDen (row.take j) < 2 ^ k
  fit : ∀ x ∈ row, Fit k x
  gcd : gcdAll (scaleRow row) < 2 ^ k
  kk : k + k ≤ 9000
def sp_integer_row : FSp := fun os Q => ∃ (row : List Rat) (k : Nat), os = [.d (rowD row)] ∧ NormOk row k ∧ Q (.d (.tuple [.list (zD (normInts row)), .tuple [.int (lcmDen row), .int (sgnGcd (scaleRow row))]])) os
def sp_sum_of_row : FSp := fun os Q => ∃ (row : List Rat) (due : Rat) (k : Nat), os = [.d (rowD (row ++ [due]))] ∧ NormOk row k ∧ Fit k due ∧ Q (.d (sumD (normRow row due))) os
/-! ### integer_row -/
abbrev s_integer_row : Stmt := topS 21
abbrev n_integer_row : List Str := ["row", "lower", "one", "numbers", "common", "number"]
theorem sc_integer_row : FnScope n_integer_row ["row"] (defScope s_integer_row) := ⟨rfl, rfl, rfl, by decide +kernel, rfl, by decide +kernel, by decide +kernel⟩
def r_integer_row : RS := (rSeq (rSet 1 (rO (rC (.int 1))))
  (rSeq (rFor (rFs (rVar 0)) (rGn 2) (rSet 1 (rCB fLcm (rACons (rN 1) (rACons (rP (rD (rOp dIx (rN 2) (rP (rC (.int 1)))))) rANil)))))
  (rSeq (rSet 3 (rLc (rFs (rVar 0)) (rGn 2) rYes (rD (rOp dMul (rP (rD (rOp bFdiv (rN 1) (rP (rD (rOp dIx (rN 2) (rP (rC (.int 1))))))))) (rP (rD (rOp dIx (rN 2) (rP (rC (.int 0)))))))) [2]))
  (rSeq (rSet 4 (rO (rC (.int 0))))
  (rSeq (rFor (rFs (rVar 3)) (rGn 5) (rSet 4 (rCB fGcd (rACons (rN 4) (rACons (rN 5) rANil)))))
  (rSeq (rIfS (rCmp bLt (rP (rD (rOp dIx (rP (rD (rLc (rFs (rVar 3)) (rGn 5) (rCmp (dEq true) (rN 5) (rP (rC (.int 0)))) (rVar 5) [5]))) (rP (rC (.int 0)))))) (rP (rC (.int 0)))) (rSet 4 (rO (rNeg (rVar 4)))) rNext)
  (rRet (rO (rTup (rCons (rD (rLc (rFs (rVar 3)) (rGn 5) rYes (rD (rOp bFdiv (rN 5) (rN 4))) [5])) (rCons (rTup (rCons (rVar 1) (rCons (rVar 4) rNil))) rNil)))))))))))
theorem q_integer_row {P : Program} {w : World} {K : Fg} {mg : Str → Option Value} {base : Heap} {f : Addr} (g : Gs K mg) (cdv : Value) (A : Around) (outer : List PySem.Env) (s : Shared) (H : Hp) (E : XK) (hr : Room 0 (A.deeper (envOfC "integer_row" (defScope s_integer_row) s.heap.objs.size f cdv))) :
    QSs (cxOf CX0 P w K mg base n_integer_row "integer_row" (defScope s_integer_row) f cdv A outer s H E).nox [] (defBody s_integer_row) r_integer_row :=
  (qss_cons (qs_set 1 sc_integer_row.nd (QV.o qv_int))
  (qss_cons (qs_for PassesOwn.never rfl (qf_seq (qv_var 0)) (qg_name 2 sc_integer_row.nd) (qss_one (qs_set 1 sc_integer_row.nd (qe_lcm g.lcm (qa_cons (qp_var 1) (qa_cons ((qv_ix (qp_var 2) (qv_int).p)).p qa_nil))))))
  (qss_cons (qs_setLc (own := [("one", 2)]) 3 rfl sc_integer_row.nd (qf_seq (qv_var 0)) (blkOk_by (by rfl)) (fun _ _ _ _ _ => (qg_name 2 sc_integer_row.nd)) (fun _ _ _ _ _ => qts_nil) (fun _ _ _ _ _ => (QE.v (qe_mul ((QE.v (qe_fdiv (qp_var 1) ((qv_ix (qp_var 2) (qv_int).p)).p))).p ((qv_ix (qp_var 2) (qv_int).p)).p))))
  (qss_cons (qs_set 4 sc_integer_row.nd (QV.o qv_int))
  (qss_cons (qs_for PassesOwn.never rfl (qf_seq (qv_var 3)) (qg_name 5 sc_integer_row.nd) (qss_one (qs_set 4 sc_integer_row.nd (qe_gcd g.gcd (qa_cons (qp_var 4) (qa_cons (qp_var 5) qa_nil))))))
  (qss_cons (qs_if (qt_lt ((qv_ix ((QE.v (qe_lc (own := [("number", 5)]) rfl sc_integer_row.nd (qf_seq (qv_var 3)) (blkOk_by (by rfl)) (fun _ _ _ _ _ => (qg_name 5 sc_integer_row.nd)) (fun _ _ _ _ _ => (qts_one (qt_ne hr.units (qp_var 5) (qv_int).p))) (fun _ _ _ _ _ => (qv_var 5))))).p (qv_int).p)).p (qv_int).p) (qss_one (qs_set 4 sc_integer_row.nd (QV.o (qv_neg (qv_var 4))))) qss_nil)
  (qss_one (qs_ret (QV.o (qv_tup (ql_cons (QE.v (qe_lc (own := [("number", 5)]) rfl sc_integer_row.nd (qf_seq (qv_var 3)) (blkOk_by (by rfl)) (fun _ _ _ _ _ => (qg_name 5 sc_integer_row.nd)) (fun _ _ _ _ _ => qts_nil) (fun _ _ _ _ _ => (QE.v (qe_fdiv (qp_var 5) (qp_var 4)))))) (ql_cons (qv_tup (ql_cons (qv_var 1) (ql_cons (qv_var 4) ql_nil))) ql_nil))))))))))))

/-! ### sum_of_row -/
abbrev s_sum_of_row : Stmt := topS 34
abbrev n_sum_of_row : List Str := ["row", "parts", "factor"]
theorem sc_sum_of_row : FnScope n_sum_of_row ["row"] (defScope s_sum_of_row) := ⟨rfl, rfl, rfl, by decide +kernel, rfl, by decide +kernel, by decide +kernel⟩
def r_sum_of_row : RS := (rSeq (rAsgT (rD (rCall sp_integer_row (rACons (rP (rD (rSl (rN 0) rNoI (rSoI (rNeg (rC (.int 1))))))) rANil))) (rGt 2 (rGcons (rGn 1) (rGcons (rGn 2) rGnil))))
  (rRet (rO (rTup (rCons (rD (rCB fTuple (rACons (rN 1) rANil))) (rCons (rD (rCall sp_times_of (rACons (rP (rD (rOp dIx (rN 0) (rP (rNeg (rC (.int 1))))))) (rACons (rP (rD (rCall sp_quotient_of (rACons (rP (rD (rOp dIx (rN 2) (rP (rC (.int 0)))))) (rACons (rP (rD (rOp dIx (rN 2) (rP (rC (.int 1)))))) rANil))))) rANil)))) rNil))))))
theorem q_sum_of_row {P : Program} {w : World} {K : Fg} {mg : Str → Option Value} {base : Heap} {f : Addr} (g : Gs K mg) (h_quotient_of : Has P w K mg base "quotient_of" ["number", "other"] 1 sp_quotient_of) (h_times_of : Has P w K mg base "times_of" ["one", "other"] 2 sp_times_of) (h_integer_row : Has P w K mg base "integer_row" ["row"] 1 sp_integer_row) (cdv : Value) (A : Around) (outer : List PySem.Env) (s : Shared) (H : Hp) (E : XK) (hr : Room 2 (A.deeper (envOfC "sum_of_row" (defScope s_sum_of_row) s.heap.objs.size f cdv))) :
    QSs (cxOf CX0 P w K mg base n_sum_of_row "sum_of_row" (defScope s_sum_of_row) f cdv A outer s H E).nox [] (defBody s_sum_of_row) r_sum_of_row :=
  (qss_cons (qs_asgT (QE.v (qe_call h_integer_row (hr.mono (by decide)) (qa_cons ((QE.v (qe_slice (qp_var 0) qi_none (qi_some (qv_neg qv_int))))).p qa_nil))) (qg_tup 2 rfl (qgs_cons (qg_name 1 sc_sum_of_row.nd) (qgs_cons (qg_name 2 sc_sum_of_row.nd) qgs_nil))))
  (qss_one (qs_ret (QV.o (qv_tup (ql_cons (QE.v (qe_tuple g.tuple (qa_cons (qp_var 1) qa_nil))) (ql_cons (QE.v (qe_call h_times_of (hr.mono (by decide)) (qa_cons ((qv_ix (qp_var 0) ((qv_neg qv_int)).p)).p (qa_cons ((QE.v (qe_call h_quotient_of (hr.mono (by decide)) (qa_cons ((qv_ix (qp_var 2) (qv_int).p)).p (qa_cons ((qv_ix (qp_var 2) (qv_int).p)).p qa_nil))))).p qa_nil)))) ql_nil)))))))

theorem lcm_pos (row : List Rat) : 0 < lcmDen row := by
  unfold lcmDen
  suffices h : ∀ (l : Nat), 0 < l → 0 < row.foldl (fun l x => Nat.lcm l x.den) l from h 1 (by decide)
  intro l hl
  induction row generalizing l with
  | nil => exact hl
  | cons x row ih => exact ih _ (Nat.lcm_pos hl x.den_pos)
theorem lcm_dvd (row : List Rat) : ∀ x ∈ row, x.den ∣ lcmDen row := by
  unfold lcmDen
  suffices h : ∀ (l : Nat), l ∣ row.foldl (fun l x => Nat.lcm l x.den) l ∧ ∀ x ∈ row, x.den ∣ row.foldl (fun l x => Nat.lcm l x.den) l from (h 1).2
  induction row with
  | nil => exact fun l => ⟨Nat.dvd_refl l, by simp⟩
  | cons y row ih =>
    intro l
    have := ih (Nat.lcm l y.den)
    refine ⟨Nat.dvd_trans (Nat.dvd_lcm_left _ _) this.1, fun x hx => ?_⟩
    rcases List.mem_cons.mp hx with e | hx
    · rw [e]
      exact Nat.dvd_trans (Nat.dvd_lcm_right _ _) this.1
    · exact this.2 x hx
theorem gcd_dvd (ns : List Int) : ∀ n ∈ ns, (gcdAll ns : Int) ∣ n := by
  unfold gcdAll
  suffices h : ∀ (g : Nat), ns.foldl (fun g (x : Int) => Nat.gcd g x.natAbs) g ∣ g ∧ ∀ n ∈ ns, ((ns.foldl (fun g (x : Int) => Nat.gcd g x.natAbs) g : Nat) : Int) ∣ n from (h 0).2
  induction ns with
  | nil => exact fun g => ⟨Nat.dvd_refl g, by simp⟩
  | cons y ns ih =>
    intro g
    have := ih (Nat.gcd g y.natAbs)
    refine ⟨Nat.dvd_trans this.1 (Nat.gcd_dvd_left _ _), fun x hx => ?_⟩
    rcases List.mem_cons.mp hx with e | hx
    · rw [e]
      exact Int.ofNat_dvd_left.mpr (Nat.dvd_trans this.1 (Nat.gcd_dvd_right _ _))
    · exact this.2 x hx
theorem scale_ne {row : List Rat} {x : Rat} (hx : x ∈ row) (h0 : x ≠ 0) : Int.fdiv (lcmDen row) x.den * x.num ≠ 0 := by
  obtain ⟨q, hq⟩ := lcm_dvd row x hx
  have hp := lcm_pos row
  refine Int.mul_ne_zero ?_ (fun z => h0 (Rat.num_eq_zero.mp z))
  rw [hq, Int.natCast_mul, Int.fdiv_eq_ediv_of_dvd (Int.dvd_mul_right ..), Int.mul_ediv_cancel_left _ (den0 x)]
  intro z
  have : q = 0 := by omega
  rw [this, Nat.mul_zero] at hq
  omega
theorem gcd_ne {row : List Rat} (h : ∃ x ∈ row, x ≠ 0) : gcdAll (scaleRow row) ≠ 0 := by
  obtain ⟨x, hx, h0⟩ := h
  intro z
  have := gcd_dvd (scaleRow row) _ (List.mem_map_of_mem (f := fun x : Rat => Int.fdiv (lcmDen row) x.den * x.num) hx)
  rw [z] at this
  exact scale_ne hx h0 (Int.zero_dvd.mp this)
theorem sgn_abs (ns : List Int) : (sgnGcd ns).natAbs = gcdAll ns := by
  unfold sgnGcd
  split <;> omega
theorem quot_lt (l d : Nat) {k : Nat} (h : l < 2 ^ k) : (Int.fdiv (l : Int) (d : Int)).natAbs < 2 ^ k := by
  rw [Int.fdiv_eq_ediv_of_nonneg _ (by omega), ← Int.natCast_ediv, Int.natAbs_natCast]
  exact Nat.lt_of_le_of_lt (Nat.div_le_self _ _) h
theorem cdiv_of {k : Nat} {a b : Int} (h0 : b ≠ 0) (h : b.natAbs < 2 ^ k) (hk : k ≤ 9000) : CDivA a b :=
  ⟨h0, log2_lt_of_lt (Nat.lt_of_lt_of_le h (Nat.pow_le_pow_right (by decide) hk)) (by decide)⟩
theorem clcm_of {k : Nat} {a b : Nat} (h : a < 2 ^ k) (h' : b < 2 ^ k) (hk : k ≤ 9000) : CLcm (a : Int) (b : Int) :=
  ⟨log2_lt_of_lt (Nat.lt_of_lt_of_le h (Nat.pow_le_pow_right (by decide) (by omega))) (by decide), log2_lt_of_lt (Nat.lt_of_lt_of_le h' (Nat.pow_le_pow_right (by decide) (by omega))) (by decide)⟩
theorem m_integer_row (os : List O) (Q : O → List O → Prop) (h : sp_integer_row os Q) : Ends r_integer_row n_integer_row os Q := by
  obtain ⟨row, k, rfl, ok, q⟩ := h
  have g0 := gcd_ne ok.some
  have s0 : sgnGcd (scaleRow row) ≠ 0 := fun z => g0 (by rw [← sgn_abs, z]; rfl)
  have kk := ok.kk
  walk_at "go"
  refine ⟨fun j e => ∃ o2, e = [some (.d (rowD row)), some (.d (.int (lcmDen (row.take j)))), o2, none, none, none], ⟨none, rfl⟩, ?_, ?_⟩
  · rintro j x e hx ⟨o2, rfl⟩
    obtain ⟨r, hr, rfl⟩ := get_map hx
    walk_at "go"
    · unfold lcmDen
      rw [foldl_take _ _ _ _ _ hr]
      exact ⟨_, rfl⟩
    · exact clcm_of (ok.lcm j) (ok.fit r (List.mem_of_getElem? hr)).2 (by omega)
  rintro e ⟨o2, rfl⟩
  have el : row.take (row.map qD).length = row := by rw [List.length_map, List.take_length]
  rw [el]
  walk_at "go"
  refine lc_mapE (fun e => ∃ o2, e = [some (.d (rowD row)), some (.d (.int (lcmDen row))), o2, none, none, none]) (ys := zD (scaleRow row)) ⟨_, rfl⟩ (by simp [zD, scaleRow]) (by rw [List.length_map]; have := ok.few; omega) ?_ ?_
  · rintro j x y k' _ ⟨o2, rfl⟩ hx hy hk'
    obtain ⟨r, hr, rfl⟩ := get_map hx
    have fr := ok.fit r (List.mem_of_getElem? hr)
    have hy2 : y = .int (Int.fdiv (lcmDen row) r.den * r.num) := by
      unfold zD scaleRow at hy
      rw [List.getElem?_map, List.getElem?_map, hr] at hy
      exact (Option.some.inj hy).symm
    subst hy2
    have ll := ok.lcm row.length
    rw [List.take_length] at ll
    walk_at "go"
    · exact hk' _ ⟨_, rfl⟩
    · exact mul_fit (quot_lt _ _ ll) fr.1 (by omega) (by omega)
    · exact cdiv_of (k := k) (den0 r) (by rw [Int.natAbs_natCast]; exact fr.2) (by omega)
  rintro e ⟨o2, rfl⟩
  walk_at "go"
  refine ⟨fun j e => ∃ o5, e = [some (.d (rowD row)), some (.d (.int (lcmDen row))), o2, some (.d (.list (zD (scaleRow row)))), some (.d (.int (gcdAll ((scaleRow row).take j)))), o5], ⟨none, rfl⟩, ?_, ?_⟩
  · rintro j x e hx ⟨o5, rfl⟩
    obtain ⟨n, hn, rfl⟩ := get_map hx
    walk_at "go"
    · unfold gcdAll
      rw [foldl_take _ _ _ _ _ hn]
      exact ⟨_, rfl⟩
    · trivial
  rintro e ⟨o5, rfl⟩
  have el2 : (scaleRow row).take (zD (scaleRow row)).length = scaleRow row := by
    unfold zD
    rw [List.length_map, List.take_length]
  rw [el2]
  walk_at "go"
  have lenS : (zD (scaleRow row)).length ≤ 1000 := by
    unfold zD scaleRow
    rw [List.length_map, List.length_map]
    have := ok.few
    omega
  let nz : D → Bool := fun d => match d with
    | .int n => decide (n ≠ 0)
    | _ => false
  refine lc_filterE (p := nz) (g := id) (fun e => ∃ o5, e = [some (.d (rowD row)), some (.d (.int (lcmDen row))), o2, some (.d (.list (zD (scaleRow row)))), some (.d (.int (gcdAll (scaleRow row)))), o5]) ⟨_, rfl⟩ lenS ?_ ?_
  · rintro j x k1 k2 _ ⟨o5, rfl⟩ hx h1 h2
    obtain ⟨n, hn, rfl⟩ := get_map hx
    walk_at "go"
    refine decI (fun h => ?_) (fun h => ?_)
    · walk_at "wh"
      have h : (!decide (n = 0)) = true := h
      refine h1 (by simpa [nz] using h) _ ⟨_, rfl⟩
    · walk_at "wh"
      have h : ¬ (!decide (n = 0)) = true := h
      refine h2 (by simpa [nz] using h) _ ⟨_, rfl⟩
  rintro e ⟨o5, rfl⟩
  have hfil : ((zD (scaleRow row)).filter nz).map id = zD ((scaleRow row).filter fun n => decide (n ≠ 0)) := by
    unfold zD
    rw [List.map_id, List.filter_map]
    rfl
  rw [hfil]
  have hne : ((scaleRow row).filter fun n => decide (n ≠ 0)) ≠ [] := by
    obtain ⟨x, hx, h0⟩ := ok.some
    refine List.ne_nil_of_mem (a := Int.fdiv (lcmDen row) x.den * x.num) (List.mem_filter.mpr ⟨List.mem_map_of_mem (f := fun x : Rat => Int.fdiv (lcmDen row) x.den * x.num) hx, by simpa using scale_ne hx h0⟩)
  have hfirst : atI (zD ((scaleRow row).filter fun n => decide (n ≠ 0))) ((0 : Nat) : Int) = some (.int (firstNZ (scaleRow row))) := by
    unfold firstNZ
    generalize ((scaleRow row).filter fun n => decide (n ≠ 0)) = l at hne
    cases l with
    | nil => exact absurd rfl hne
    | cons a l => exact atI_map (f := PyData.int) rfl
  walk_at "wh"
  refine ⟨_, hfirst, ?_⟩
  have gl := ok.gcd
  have fin : ∀ e, (∃ o5, e = [some (.d (rowD row)), some (.d (.int (lcmDen row))), o2, some (.d (.list (zD (scaleRow row)))), some (.d (.int (sgnGcd (scaleRow row)))), o5]) →
      rRet (rO (rTup (rCons (rD (rLc (rFs (rVar 3)) (rGn 5) rYes (rD (rOp bFdiv (rN 5) (rN 4))) [5])) (rCons (rTup (rCons (rVar 1) (rCons (rVar 4) rNil))) rNil)))) { nx := fun e => finL e [.d (rowD row)] (Q (.d .none)), rt := fun o e => finL e [.d (rowD row)] (Q o), bk := fun _ => False, ct := fun _ => False } e := by
    rintro e ⟨o5, rfl⟩
    walk_at "go"
    refine lc_mapE (fun e => ∃ o5, e = [some (.d (rowD row)), some (.d (.int (lcmDen row))), o2, some (.d (.list (zD (scaleRow row)))), some (.d (.int (sgnGcd (scaleRow row)))), o5]) (ys := zD (normInts row)) ⟨_, rfl⟩ (by simp [zD, normInts]) lenS ?_ ?_
    · rintro j x y k' _ ⟨o5, rfl⟩ hx hy hk'
      obtain ⟨n, hn, rfl⟩ := get_map hx
      have hy2 : y = .int (Int.fdiv n (sgnGcd (scaleRow row))) := by
        unfold zD normInts at hy
        rw [List.getElem?_map, List.getElem?_map, hn] at hy
        exact (Option.some.inj hy).symm
      subst hy2
      walk_at "go"
      · exact hk' _ ⟨_, rfl⟩
      · exact cdiv_of (k := k) s0 (by rw [sgn_abs]; exact gl) (by omega)
    rintro e ⟨o5, rfl⟩
    walk_at "go"
    · exact q
    · exact (by decide : 2 ≤ sizeLine)
    · exact (by decide : 2 ≤ sizeLine)
  walk_at "wh"
  refine decI (fun h => ?_) (fun h => ?_)
  · have h : firstNZ (scaleRow row) < 0 := of_decide_eq_true h
    refine fin [some (.d (rowD row)), some (.d (.int (lcmDen row))), o2, some (.d (.list (zD (scaleRow row)))), some (.d (.int (-(gcdAll (scaleRow row) : Int)))), o5] ⟨o5, ?_⟩
    unfold sgnGcd
    rw [if_pos h]
  · have h : ¬ firstNZ (scaleRow row) < 0 := fun z => h (decide_eq_true z)
    refine fin [some (.d (rowD row)), some (.d (.int (lcmDen row))), o2, some (.d (.list (zD (scaleRow row)))), some (.d (.int (gcdAll (scaleRow row) : Int))), o5] ⟨o5, ?_⟩
    unfold sgnGcd
    rw [if_neg h]
theorem m_sum_of_row (os : List O) (Q : O → List O → Prop) (h : sp_sum_of_row os Q) : Ends r_sum_of_row n_sum_of_row os Q := by
  obtain ⟨row, due, k, rfl, ok, fd, q⟩ := h
  have g0 := gcd_ne ok.some
  have s0 : sgnGcd (scaleRow row) ≠ 0 := fun z => g0 (by rw [← sgn_abs, z]; rfl)
  have e1 : (row ++ [due]).map qD = row.map qD ++ [qD due] := by rw [List.map_append]; rfl
  have kk := ok.kk
  have ll := ok.lcm row.length
  rw [List.take_length] at ll
  have gl := ok.gcd
  walk_at "wh"
  refine ⟨row, k, ?_, ok, ?_⟩
  · show [O.d (.list (cut ((row ++ [due]).map qD) none (some (-1))))] = _
    rw [e1, cut_last]
    rfl
  walk_at "go"
  · refine ⟨qD due, ?_, ?_⟩
    · show atI ((row ++ [due]).map qD) (-1) = _
      rw [e1, atI_neg1]
    walk_at "go"
    refine ⟨_, _, rfl, s0, by rw [sgn_abs]; exact Nat.lt_of_lt_of_le gl (Nat.pow_le_pow_right (by decide) (by omega)), ?_⟩
    walk_at "wh"
    refine ⟨due, _, k, k, rfl, fd, fit_divInt s0 (by rw [Int.natAbs_natCast]; exact ll) (by rw [sgn_abs]; exact gl), kk, ?_⟩
    walk_at "go"
    · exact q
    · exact (by decide : 2 ≤ sizeLine)
  · rfl
theorem f_integer_row {P : Program} {w : World} {K : Fg} {mg : Str → Option Value} {base : Heap} {f : Addr} {fd : FuncData} (g : Gs K mg) (F : Fun K "integer_row" "integer_row" s_integer_row f fd) : FnOk P w K mg base CX0 1 f fd ["row"] (SpOf K sp_integer_row) :=
  fn_ok F sc_integer_row [] (fun cdv A outer s H E hr => q_integer_row g cdv A outer s H E hr) (by walk_at "len") (by walk_at "keep") m_integer_row
theorem mono_integer_row : sp_integer_row.Mono := by walk_at "mono"

theorem f_sum_of_row {P : Program} {w : World} {K : Fg} {mg : Str → Option Value} {base : Heap} {f : Addr} {fd : FuncData} (g : Gs K mg) (h_quotient_of : Has P w K mg base "quotient_of" ["number", "other"] 1 sp_quotient_of) (h_times_of : Has P w K mg base "times_of" ["one", "other"] 2 sp_times_of) (h_integer_row : Has P w K mg base "integer_row" ["row"] 1 sp_integer_row) (F : Fun K "sum_of_row" "sum_of_row" s_sum_of_row f fd) : FnOk P w K mg base CX0 3 f fd ["row"] (SpOf K sp_sum_of_row) :=
  fn_ok F sc_sum_of_row [] (fun cdv A outer s H E hr => q_sum_of_row g h_quotient_of h_times_of h_integer_row cdv A outer s H E hr) (by walk_at "len") (by walk_at "keep") m_sum_of_row
theorem mono_sum_of_row : sp_sum_of_row.Mono := by walk_at "mono"

end K82
set_option Elab.async false
set_option linter.all false
set_option maxRecDepth 100000
set_option maxHeartbeats 4000000
set_option exponentiation.threshold 20000
set_option pp.deepTerms false
set_option pp.maxSteps 500
namespace K82
open PySem PySem.Spec PyProof.Rows L2 Pf
local macro_rules | `(tactic| walk_at "go") => `(tactic| (conv => whnf) <;> repeat ((first | refine atE rfl ?_ | refine andR ?_ ?_); (conv => whnf)))
local macro_rules | `(tactic| walk_at "wh") => `(tactic| conv => whnf)
local macro_rules | `(tactic| walk_at "len") => `(tactic| (intro os Q h; (repeat (obtain ⟨_, h⟩ := h)); subst_vars; rfl))
local macro_rules | `(tactic| walk_at "keep") => `(tactic| (intro os Q h; (repeat (obtain ⟨_, h⟩ := h)); subst_vars; simp [keepOk]))
local macro_rules | `(tactic| walk_at "mono") => `(tactic| (intro os k k' f; repeat (first | exact f _ _ | refine Exists.imp fun _ => ?_ | refine And.imp_right ?_ | refine forall_imp fun _ => ?_)))
/-! the plane of a book -/
def sp_left_due : FSp := fun os Q => ∃ (s : Sm) (n : Nat) (w : D), os = [.d (sumD s), .d (.list (natD (List.range n))), .d w] ∧ s.1.length = n ∧ Q (.d (qD s.2)) os
def sp_open_rows : FSp := fun os Q => ∃ (rows : List Sm) (ns : List Str) (n : Nat) (w : D), os = [.d (bookD ns rows), .d (.list (natD (List.range n))), .d w] ∧ (∀ s ∈ rows, s.1.length = n) ∧ rows.length ≤ 400 ∧ n ≤ 400 ∧ Q (.d (matD (augM rows))) os
def sp_free_moves : FSp := fun os Q => ∃ (M : List (List Rat)) (ls : List Nat) (n k : Nat), os = [.d (matD M), .d (.list (natD ls)), .d (.list (natD (List.range n))), .d (.int (n : Nat))] ∧ Wide (n + 1) M ∧ (∀ l ∈ ls, l < n) ∧ n ≤ 400 ∧ M.length ≤ 400 ∧ (∀ r ∈ M, ∀ x ∈ r, Fit k x) ∧ k < 9000 ∧ Q (.d (.list ((movesP M ls n).map rowD))) os
/-! ### left_due -/
abbrev s_left_due : Stmt := topS 23
abbrev n_left_due : List Str := ["row", "free", "worths", "left", "number", "part"]
theorem sc_left_due : FnScope n_left_due ["row", "free", "worths"] (defScope s_left_due) := ⟨rfl, rfl, rfl, by decide +kernel, rfl, by decide +kernel, by decide +kernel⟩
def r_left_due : RS := (rSeq (rSet 3 (rO (rD (rOp dIx (rN 0) (rP (rC (.int 1)))))))
  (rSeq (rForT (rEnum (rD (rOp dIx (rN 0) (rP (rC (.int 0)))))) 2 (rGcons (rGn 4) (rGcons (rGn 5) rGnil)) (rIfS (rCmp (dIn true) (rN 4) (rN 1)) (rSet 3 (rCall sp_less_of (rACons (rN 3) (rACons (rP (rD (rCall sp_scaled_by (rACons (rN 5) (rACons (rP (rD (rOp dIx (rN 2) (rN 4)))) rANil))))) rANil)))) rNext))
  (rRet (rO (rVar 3)))))
theorem q_left_due {P : Program} {w : World} {K : Fg} {mg : Str → Option Value} {base : Heap} {f : Addr} (g : Gs K mg) (h_less_of : Has P w K mg base "less_of" ["one", "other"] 2 sp_less_of) (h_scaled_by : Has P w K mg base "scaled_by" ["number", "one"] 2 sp_scaled_by) (cdv : Value) (A : Around) (outer : List PySem.Env) (s : Shared) (H : Hp) (E : XK) (hr : Room 2 (A.deeper (envOfC "left_due" (defScope s_left_due) s.heap.objs.size f cdv))) :
    QSs (cxOf CX0 P w K mg base n_left_due "left_due" (defScope s_left_due) f cdv A outer s H E).nox [] (defBody s_left_due) r_left_due :=
  (qss_cons (qs_set 3 sc_left_due.nd (QV.o (qv_ix (qp_var 0) (qv_int).p)))
  (qss_cons (qs_forT 2 PassesOwn.never rfl (qf_enum g.enumerate (qv_ix (qp_var 0) (qv_int).p)) (qgs_cons (qg_name 4 sc_left_due.nd) (qgs_cons (qg_name 5 sc_left_due.nd) qgs_nil)) (qss_one (qs_if (qt_notin (qp_var 4) (qp_var 1)) (qss_one (qs_set 3 sc_left_due.nd (qe_call h_less_of (hr.mono (by decide)) (qa_cons (qp_var 3) (qa_cons ((QE.v (qe_call h_scaled_by (hr.mono (by decide)) (qa_cons (qp_var 5) (qa_cons ((qv_ix (qp_var 2) (qp_var 4))).p qa_nil))))).p qa_nil))))) qss_nil)))
  (qss_one (qs_ret (QV.o (qv_var 3))))))

/-! ### open_rows -/
abbrev s_open_rows : Stmt := topS 24
abbrev n_open_rows : List Str := ["book", "free", "worths", "rows", "row", "figure"]
theorem sc_open_rows : FnScope n_open_rows ["book", "free", "worths"] (defScope s_open_rows) := ⟨rfl, rfl, rfl, by decide +kernel, rfl, by decide +kernel, by decide +kernel⟩
def r_open_rows : RS := (rSeq (rSet 3 (rLst rNil))
  (rSeq (rFor (rFs (rD (rOp dIx (rN 0) (rP (rC (.int 1)))))) (rGn 4) (rDrop (rApp 3 (rD (rOp dAdd (rP (rD (rLc (rFs (rVar 1)) (rGn 5) rYes (rD (rCall sp_whole (rACons (rP (rD (rOp dIx (rP (rD (rOp dIx (rN 4) (rP (rC (.int 0)))))) (rN 5)))) rANil))) [5]))) (rP (rD (rLst (rCons (rD (rCall sp_left_due (rACons (rN 4) (rACons (rN 1) (rACons (rN 2) rANil))))) rNil)))))))))
  (rRet (rO (rVar 3)))))
theorem q_open_rows {P : Program} {w : World} {K : Fg} {mg : Str → Option Value} {base : Heap} {f : Addr} (g : Gs K mg) (h_whole : Has P w K mg base "whole" ["number"] 1 sp_whole) (h_left_due : Has P w K mg base "left_due" ["row", "free", "worths"] 3 sp_left_due) (cdv : Value) (A : Around) (outer : List PySem.Env) (s : Shared) (H : Hp) (E : XK) (hr : Room 3 (A.deeper (envOfC "open_rows" (defScope s_open_rows) s.heap.objs.size f cdv))) :
    QSs (cxOf CX0 P w K mg base n_open_rows "open_rows" (defScope s_open_rows) f cdv A outer s H E).nox [] (defBody s_open_rows) r_open_rows :=
  (qss_cons (qs_set 3 sc_open_rows.nd (qe_lst ql_nil))
  (qss_cons (qs_for PassesOwn.never rfl (qf_seq (qv_ix (qp_var 0) (qv_int).p)) (qg_name 4 sc_open_rows.nd) (qss_one (qs_expr (qe_append 3 (QE.v (qe_add ((QE.v (qe_lc (own := [("figure", 5)]) rfl sc_open_rows.nd (qf_seq (qv_var 1)) (blkOk_by (by rfl)) (fun _ _ _ _ _ => (qg_name 5 sc_open_rows.nd)) (fun _ _ _ _ _ => qts_nil) (fun _ _ _ _ _ => (QE.v (qe_call h_whole (hr.mono (by decide)) (qa_cons ((qv_ix ((qv_ix (qp_var 4) (qv_int).p)).p (qp_var 5))).p qa_nil))))))).p ((QE.v (qe_lst (ql_cons (QE.v (qe_call h_left_due (hr.mono (by decide)) (qa_cons (qp_var 4) (qa_cons (qp_var 1) (qa_cons (qp_var 2) qa_nil))))) ql_nil)))).p))))))
  (qss_one (qs_ret (QV.o (qv_var 3))))))

/-! ### free_moves -/
abbrev s_free_moves : Stmt := topS 25
abbrev n_free_moves : List Str := ["rows", "leads", "free", "many", "moves", "column", "move", "row", "lead"]
theorem sc_free_moves : FnScope n_free_moves ["rows", "leads", "free", "many"] (defScope s_free_moves) := ⟨rfl, rfl, rfl, by decide +kernel, rfl, by decide +kernel, by decide +kernel⟩
def r_free_moves : RS := (rSeq (rSet 4 (rLst rNil))
  (rSeq (rFor (rRng1 (rD (rCB fLen (rACons (rN 2) rANil)))) (rGn 5) (rIfS (rCmp (dIn true) (rN 5) (rN 1)) (rSeq (rSet 6 (rRepL (rLst (rCons (rC d_ZERO) rNil)) (rVar 3)))
  (rSeq (rSetIx 6 (rC d_ONE) (rD (rOp dIx (rN 2) (rN 5))))
  (rSeq (rForT (rZip (rVar 0) (rVar 1)) 2 (rGcons (rGn 7) (rGcons (rGn 8) rGnil)) (rSetIx 6 (rD (rCall sp_less_of (rACons (rP (rC d_ZERO)) (rACons (rP (rD (rOp dIx (rN 7) (rN 5)))) rANil)))) (rD (rOp dIx (rN 2) (rN 8)))))
  (rDrop (rApp 4 (rVar 6)))))) rNext))
  (rRet (rO (rVar 4)))))
theorem q_free_moves {P : Program} {w : World} {K : Fg} {mg : Str → Option Value} {base : Heap} {f : Addr} (g : Gs K mg) (h_less_of : Has P w K mg base "less_of" ["one", "other"] 2 sp_less_of) (cdv : Value) (A : Around) (outer : List PySem.Env) (s : Shared) (H : Hp) (E : XK) (hr : Room 2 (A.deeper (envOfC "free_moves" (defScope s_free_moves) s.heap.objs.size f cdv))) :
    QSs (cxOf CX0 P w K mg base n_free_moves "free_moves" (defScope s_free_moves) f cdv A outer s H E).nox [] (defBody s_free_moves) r_free_moves :=
  (qss_cons (qs_set 4 sc_free_moves.nd (qe_lst ql_nil))
  (qss_cons (qs_for PassesOwn.never rfl (qf_range1 g.range (QE.v (qe_len g.len (qa_cons (qp_var 2) qa_nil)))) (qg_name 5 sc_free_moves.nd) (qss_one (qs_if (qt_notin (qp_var 5) (qp_var 1)) (qss_cons (qs_set 6 sc_free_moves.nd (qe_repL (qe_lst (ql_cons (g.ZERO) ql_nil)) (qv_var 3)))
  (qss_cons (qs_setIx 6 (g.ONE) (qv_ix (qp_var 2) (qp_var 5)))
  (qss_cons (qs_forT 2 PassesOwn.never rfl (qf_zip g.zip (qv_var 0) (qv_var 1)) (qgs_cons (qg_name 7 sc_free_moves.nd) (qgs_cons (qg_name 8 sc_free_moves.nd) qgs_nil)) (qss_one (qs_setIx 6 (QE.v (qe_call h_less_of (hr.mono (by decide)) (qa_cons ((g.ZERO)).p (qa_cons ((qv_ix (qp_var 7) (qp_var 5))).p qa_nil)))) (qv_ix (qp_var 2) (qp_var 8)))))
  (qss_one (qs_expr (qe_append 4 (qv_var 6))))))) qss_nil)))
  (qss_one (qs_ret (QV.o (qv_var 4))))))

theorem m_left_due (os : List O) (Q : O → List O → Prop) (h : sp_left_due os Q) : Ends r_left_due n_left_due os Q := by
  obtain ⟨s, n, w, rfl, hn, q⟩ := h
  walk_at "go"
  refine ⟨fun i e => ∃ o4 o5, e = [some (.d (sumD s)), some (.d (.list (natD (List.range n)))), some (.d w), some (.d (qD s.2)), o4, o5], ⟨_, _, rfl⟩, ?_, ?_⟩
  · rintro i xs e hx ⟨o4, o5, rfl⟩
    obtain ⟨p, hp, rfl⟩ := enumD_at hx
    have hi : i < n := by
      rw [← hn]
      exact (List.getElem?_eq_some_iff.mp hp).1
    refine ⟨rfl, ?_⟩
    walk_at "go"
    · refine decI (fun h => ?_) (fun h => ?_)
      · have h : (!inD (.int (i : Nat)) (natD (List.range n))) = true := h
        rw [inD_nat, decide_eq_true (List.mem_range.mpr hi)] at h
        cases h
      · walk_at "wh"
        exact ⟨_, _, rfl⟩
    · exact flat_nat _
    · rfl
  · rintro e ⟨o4, o5, rfl⟩
    walk_at "go"
    exact q
theorem m_open_rows (os : List O) (Q : O → List O → Prop) (h : sp_open_rows os Q) : Ends r_open_rows n_open_rows os Q := by
  obtain ⟨rows, ns, n, w, rfl, hw, hr, hn, q⟩ := h
  walk_at "go"
  · refine ⟨fun i e => ∃ o4 o5, e = [some (.d (bookD ns rows)), some (.d (.list (natD (List.range n)))), some (.d w), some (.own ((augM (rows.take i)).map rowD)), o4, o5], ⟨_, _, rfl⟩, ?_, ?_⟩
    · rintro i x e hx ⟨o4, o5, rfl⟩
      obtain ⟨s, hs, rfl⟩ := get_map hx
      have hsn := hw s (List.mem_of_getElem? hs)
      walk_at "go"
      refine lc_mapE (fun e => ∃ o5, e = [some (.d (bookD ns rows)), some (.d (.list (natD (List.range n)))), some (.d w), some (.own ((augM (rows.take i)).map rowD)), some (.d (sumD s)), o5]) (ys := (s.1.map (fun i : Int => (i : Rat))).map qD) ⟨_, rfl⟩ (by rw [natD_len, List.length_range, List.length_map, List.length_map, hsn]) (by rw [natD_len, List.length_range]; omega) ?_ ?_
      · rintro j x y k' _ ⟨o5, rfl⟩ hx hy hk'
        obtain ⟨a, ha, rfl⟩ := get_map hx
        have ha2 : a = j := by
          rw [List.getElem?_range (by have := (List.getElem?_eq_some_iff.mp ha).1; rwa [List.length_range] at this)] at ha
          exact (Option.some.inj ha).symm
        subst ha2
        obtain ⟨b, hb, rfl⟩ := get_map hy
        obtain ⟨c, hc, rfl⟩ := get_map hb
        walk_at "go"
        refine ⟨_, atI_map (f := PyData.int) hc, ?_⟩
        walk_at "wh"
        exact ⟨c, rfl, hk' _ ⟨_, rfl⟩⟩
      rintro e ⟨o5, rfl⟩
      walk_at "wh"
      refine ⟨s, n, w, rfl, hsn, ?_⟩
      walk_at "go"
      · refine ⟨some (.d (sumD s)), o5, ?_⟩
        have e1 : (augM (rows.take (i + 1))).map rowD = (augM (rows.take i)).map rowD ++ [rowD (augRow s)] := by
          unfold augM
          rw [List.take_add_one, hs, List.map_append, List.map_append]
          rfl
        have e2 : rowD (augRow s) = .list ((s.1.map (fun i : Int => (i : Rat))).map qD ++ [qD s.2]) := by
          unfold rowD augRow
          rw [List.map_append]
          rfl
        rw [e1, e2]
        rfl
      · show ((augM (rows.take i)).map rowD).length < sizeLine
        unfold augM
        rw [List.length_map, List.length_map, List.length_take]
        exact small64 (by omega)
      · show ((s.1.map (fun i : Int => (i : Rat))).map qD).length + 1 ≤ sizeLine
        rw [List.length_map, List.length_map, hsn]
        exact Nat.le_of_lt (small64 (by omega))
      · exact (by decide : 1 ≤ sizeLine)
    · rintro e ⟨o4, o5, rfl⟩
      have el : rows.take (rows.map sumD).length = rows := by rw [List.length_map, List.take_length]
      rw [el]
      walk_at "go"
      exact q
  · exact Nat.zero_le _
theorem atI_range {i n : Nat} (h : i < n) : atI (natD (List.range n)) (i : Int) = some (.int (i : Nat)) := atI_map (f := fun n : Nat => PyData.int (n : Nat)) (List.getElem?_range h)
theorem fit0 : Fit 1 0 := ⟨by decide, by decide⟩
theorem rep_zero (n : Nat) : (List.replicate (n : Int).toNat [d_ZERO]).flatten = (List.replicate n (0 : Rat)).map qD := by
  rw [rep_flat, List.map_replicate, Int.toNat_natCast]
  rfl
theorem free_succ (ls : List Nat) (i : Nat) : freeP ls (i + 1) = freeP ls i ++ (if i ∈ ls then [] else [i]) := by
  unfold freeP
  rw [List.range_succ, List.filter_append]
  by_cases h : i ∈ ls
  · rw [if_pos h]
    simp [h]
  · rw [if_neg h]
    simp [h]
theorem free_len (ls : List Nat) (i : Nat) : (freeP ls i).length ≤ i := by
  unfold freeP
  exact Nat.le_trans (List.length_filter_le _ _) (by rw [List.length_range]; exact Nat.le_refl _)
theorem m_free_moves (os : List O) (Q : O → List O → Prop) (h : sp_free_moves os Q) : Ends r_free_moves n_free_moves os Q := by
  obtain ⟨M, ls, n, k, rfl, hw, hl, hn, hm, hf, hk, q⟩ := h
  have ln : (natD (List.range n)).length = n := by rw [natD_len, List.length_range]
  walk_at "go"
  · refine ⟨fun i e => ∃ o5 o6 o7 o8, e = [some (.d (matD M)), some (.d (.list (natD ls))), some (.d (.list (natD (List.range n)))), some (.d (.int (n : Nat))), some (.own ((freeP ls i).map fun c => rowD (moveP M ls n c))), o5, o6, o7, o8], ⟨none, none, none, none, rfl⟩, ?_, ?_⟩
    · rintro i x e hx ⟨o5, o6, o7, o8, rfl⟩
      obtain ⟨ex, hi⟩ := rngD_at hx
      rw [ln] at hi
      have hi : i < n := by omega
      have ez : (0 + (i : Nat) : Int) = ((i : Nat) : Int) := Int.zero_add _
      rw [ez] at ex
      subst ex
      have next := free_succ ls i
      walk_at "go"
      · refine decI (fun h => ?_) (fun h => ?_)
        · have h : (!inD (.int (i : Nat)) (natD ls)) = true := h
          rw [inD_nat] at h
          have hni : i ∉ ls := by simpa using h
          rw [if_neg hni] at next
          walk_at "go"
          · refine ⟨_, atI_range hi, ?_⟩
            walk_at "wh"
            rw [rep_zero]
            refine ⟨i, ixN_nat (by rw [List.length_map, List.length_replicate]; exact hi), ?_⟩
            rw [show d_ONE = qD 1 from rfl, map_set2]
            walk_at "go"
            refine ⟨fun j e => ∃ o7 o8, e = [some (.d (matD M)), some (.d (.list (natD ls))), some (.d (.list (natD (List.range n)))), some (.d (.int (n : Nat))), some (.own ((freeP ls i).map fun c => rowD (moveP M ls n c))), some (.d (.int (i : Nat))),
              some (.own ((((List.zip M ls).take j).foldl (fun v p => v.set p.2 (0 - p.1.getD i 0)) ((List.replicate n (0 : Rat)).set i 1)).map qD)), o7, o8], ⟨o7, o8, rfl⟩, ?_, ?_⟩
            · rintro j xs e hx ⟨o7, o8, rfl⟩
              obtain ⟨r, l, hr, hl1, rfl⟩ := zipD_at (f := rowD) (g := fun n : Nat => PyData.int (n : Nat)) hx
              have hrm := List.mem_of_getElem? hr
              have hln := hl l (List.mem_of_getElem? hl1)
              obtain ⟨y, hy, hym⟩ := getAt (show i < r.length by rw [hw r hrm]; omega)
              refine ⟨rfl, ?_⟩
              walk_at "go"
              refine ⟨_, atI_map hy, ?_⟩
              walk_at "wh"
              refine ⟨0, y, 1, k, rfl, fit0, hf r hrm y hym, by omega, ?_⟩
              walk_at "go"
              refine ⟨_, atI_range hln, ?_⟩
              walk_at "wh"
              refine ⟨l, ixN_nat ?_, ?_⟩
              · rw [List.length_map, set_fold_len (fun p : List Rat × Nat => p.2) (fun p => 0 - p.1.getD i 0), List.length_set, List.length_replicate]
                exact hln
              rw [map_set2]
              walk_at "wh"
              rw [zip_take_succ _ _ _ _ _ _ _ hr hl1]
              have ey : r.getD i 0 = y := by rw [List.getD_eq_getElem?_getD, hy]; rfl
              dsimp only
              rw [ey]
              exact ⟨_, _, rfl⟩
            · rintro e ⟨o7, o8, rfl⟩
              have el : (List.zip M ls).take (zipD (M.map rowD) (natD ls)).length = List.zip M ls := by
                refine List.take_of_length_le ?_
                show (List.zip M ls).length ≤ (zipD (M.map rowD) (ls.map fun n : Nat => PyData.int (n : Nat))).length
                rw [zipD_len, List.length_zip]
                exact Nat.le_refl _
              rw [el]
              walk_at "go"
              · rw [next, List.map_append]
                exact ⟨_, _, _, _, rfl⟩
              · rw [List.length_map]
                have := free_len ls i
                exact small64 (by omega)
          · show 1 * (n : Int).toNat ≤ sizeLine
            have := small64 (n := n) (by omega)
            omega
          · omega
          · omega
          · exact (by decide : 1 ≤ sizeLine)
        · have h : ¬ (!inD (.int (i : Nat)) (natD ls)) = true := h
          rw [inD_nat] at h
          have hni : i ∈ ls := by simpa using h
          rw [if_pos hni, List.append_nil] at next
          walk_at "wh"
          rw [next]
          exact ⟨_, _, _, _, rfl⟩
      · exact flat_nat _
      · rfl
    · rintro e ⟨o5, o6, o7, o8, rfl⟩
      have el : (rngD 0 ((natD (List.range n)).length : Nat)).length = n := by
        rw [rngD_len, ln]
        omega
      rw [el]
      walk_at "go"
      unfold movesP at q
      rw [List.map_map] at q
      exact q
  · rw [ln]
    omega
  · rw [ln]
    omega
  · exact Nat.zero_le _
theorem f_left_due {P : Program} {w : World} {K : Fg} {mg : Str → Option Value} {base : Heap} {f : Addr} {fd : FuncData} (g : Gs K mg) (h_less_of : Has P w K mg base "less_of" ["one", "other"] 2 sp_less_of) (h_scaled_by : Has P w K mg base "scaled_by" ["number", "one"] 2 sp_scaled_by) (F : Fun K "left_due" "left_due" s_left_due f fd) : FnOk P w K mg base CX0 3 f fd ["row", "free", "worths"] (SpOf K sp_left_due) :=
  fn_ok F sc_left_due [] (fun cdv A outer s H E hr => q_left_due g h_less_of h_scaled_by cdv A outer s H E hr) (by walk_at "len") (by walk_at "keep") m_left_due
theorem mono_left_due : sp_left_due.Mono := by walk_at "mono"

theorem f_open_rows {P : Program} {w : World} {K : Fg} {mg : Str → Option Value} {base : Heap} {f : Addr} {fd : FuncData} (g : Gs K mg) (h_whole : Has P w K mg base "whole" ["number"] 1 sp_whole) (h_left_due : Has P w K mg base "left_due" ["row", "free", "worths"] 3 sp_left_due) (F : Fun K "open_rows" "open_rows" s_open_rows f fd) : FnOk P w K mg base CX0 4 f fd ["book", "free", "worths"] (SpOf K sp_open_rows) :=
  fn_ok F sc_open_rows [] (fun cdv A outer s H E hr => q_open_rows g h_whole h_left_due cdv A outer s H E hr) (by walk_at "len") (by walk_at "keep") m_open_rows
theorem mono_open_rows : sp_open_rows.Mono := by walk_at "mono"

theorem f_free_moves {P : Program} {w : World} {K : Fg} {mg : Str → Option Value} {base : Heap} {f : Addr} {fd : FuncData} (g : Gs K mg) (h_less_of : Has P w K mg base "less_of" ["one", "other"] 2 sp_less_of) (F : Fun K "free_moves" "free_moves" s_free_moves f fd) : FnOk P w K mg base CX0 3 f fd ["rows", "leads", "free", "many"] (SpOf K sp_free_moves) :=
  fn_ok F sc_free_moves [] (fun cdv A outer s H E hr => q_free_moves g h_less_of cdv A outer s H E hr) (by walk_at "len") (by walk_at "keep") m_free_moves
theorem mono_free_moves : sp_free_moves.Mono := by walk_at "mono"

end K82
set_option Elab.async false
set_option linter.all false
set_option maxRecDepth 100000
set_option maxHeartbeats 4000000
set_option exponentiation.threshold 20000
set_option pp.deepTerms false
set_option pp.maxSteps 500
namespace K82
open PySem PySem.Spec PyProof.Rows L2 Pf
local macro_rules | `(tactic| walk_at "go") => `(tactic| (conv => whnf) <;> repeat ((first | refine atE rfl ?_ | refine andR ?_ ?_); (conv => whnf)))
local macro_rules | `(tactic| walk_at "wh") => `(tactic| conv => whnf)
local macro_rules | `(tactic| walk_at "len") => `(tactic| (intro os Q h; (repeat (obtain ⟨_, h⟩ := h)); subst_vars; rfl))
local macro_rules | `(tactic| walk_at "keep") => `(tactic| (intro os Q h; (repeat (obtain ⟨_, h⟩ := h)); subst_vars; simp [keepOk]))
local macro_rules | `(tactic| walk_at "mono") => `(tactic| (intro os k k' f; repeat (first | exact f _ _ | refine Exists.imp fun _ => ?_ | refine And.imp_right ?_ | refine forall_imp fun _ => ?_)))
def sp_plane_of : FSp := fun os Q => ∃ (rows : List Sm) (ns : List Str) (n k : Nat) (w : D), os = [.d (bookD ns rows), .d (.list (natD (List.range n))), .d w] ∧ ns.length = n ∧ BookOk n k rows ∧ Q (.d (planeD n rows)) os
def sp_whole_plane : FSp := fun os Q => ∃ (rows : List Sm) (ns : List Str) (k : Nat), os = [.d (bookD ns rows)] ∧ BookOk ns.length k rows ∧ Q (.d (planeD ns.length rows)) os
def sp_moved_far : FSp := fun os Q => ∃ (u v : List Rat) (k l : Nat), os = [.d (tupQs u), .d (rowD v)] ∧ u.length = v.length ∧ u.length ≤ 400 ∧ (∀ x ∈ u, Fit k x) ∧ (∀ x ∈ v, Fit l x) ∧ k + l ≤ 9000 ∧ Q (.d (tupQs (List.zipWith (· + ·) u v))) os
def sp_a_world : FSp := fun os Q => ∃ (rows : List Sm) (ns : List Str) (k : Nat), os = [.d (bookD ns rows)] ∧ BookOk ns.length k rows ∧ Q (.d (aWorldD ns.length rows)) os
def sp_need_world : FSp := fun os Q => ∃ (rows : List Sm) (ns : List Str) (k : Nat), os = [.d (bookD ns rows)] ∧ BookOk ns.length k rows ∧ voidB ns.length rows = false ∧ Q (.d .none) os
/-! ### plane_of -/
abbrev s_plane_of : Stmt := topS 26
abbrev n_plane_of : List Str := ["book", "free", "worths", "many", "rows", "leads", "row", "world", "figure", "lead"]
theorem sc_plane_of : FnScope n_plane_of ["book", "free", "worths"] (defScope s_plane_of) := ⟨rfl, rfl, rfl, by decide +kernel, rfl, by decide +kernel, by decide +kernel⟩
def r_plane_of : RS := (rSeq (rSet 3 (rCB fLen (rACons (rN 1) rANil)))
  (rSeq (rAsgT (rD (rCall sp_reduced (rACons (rP (rD (rCall sp_open_rows (rACons (rN 0) (rACons (rN 1) (rACons (rN 2) rANil)))))) (rACons (rP (rD (rListRg (rVar 3)))) rANil)))) (rGt 2 (rGcons (rGn 4) (rGcons (rGn 5) rGnil))))
  (rSeq (rIfS (rTb (rD (rCB fAny (rACons (rP (rD (rLc (rFs (rD (rSl (rN 4) (rSoI (rD (rCB fLen (rACons (rN 5) rANil)))) rNoI))) (rGn 6) rYes (rTV (rCmp (dEq true) (rP (rD (rOp dIx (rN 6) (rN 3)))) (rP (rC d_ZERO)))) [6]))) rANil)))) (rRet (rO (rC .none))) rNext)
  (rSeq (rSet 7 (rLc (rRng1 (rD (rCB fLen (rACons (rP (rD (rOp dIx (rN 0) (rP (rC (.int 0)))))) rANil)))) (rGn 8) rYes (rD (rIf (rCmp (dIn false) (rN 8) (rN 1)) (rO (rC d_ZERO)) (rO (rD (rOp dIx (rN 2) (rN 8)))))) [8]))
  (rSeq (rForT (rZip (rVar 4) (rVar 5)) 2 (rGcons (rGn 6) (rGcons (rGn 9) rGnil)) (rSetIx 7 (rD (rOp dIx (rN 6) (rN 3))) (rD (rOp dIx (rN 1) (rN 9)))))
  (rRet (rO (rTup (rCons (rD (rCB fTuple (rACons (rN 7) rANil))) (rCons (rD (rCall sp_free_moves (rACons (rN 4) (rACons (rN 5) (rACons (rN 1) (rACons (rP (rD (rCB fLen (rACons (rN 7) rANil)))) rANil)))))) rNil))))))))))
theorem q_plane_of {P : Program} {w : World} {K : Fg} {mg : Str → Option Value} {base : Heap} {f : Addr} (g : Gs K mg) (h_reduced : Has P w K mg base "reduced" ["rows", "columns"] 4 sp_reduced) (h_open_rows : Has P w K mg base "open_rows" ["book", "free", "worths"] 4 sp_open_rows) (h_free_moves : Has P w K mg base "free_moves" ["rows", "leads", "free", "many"] 3 sp_free_moves) (cdv : Value) (A : Around) (outer : List PySem.Env) (s : Shared) (H : Hp) (E : XK) (hr : Room 4 (A.deeper (envOfC "plane_of" (defScope s_plane_of) s.heap.objs.size f cdv))) :
    QSs (cxOf CX0 P w K mg base n_plane_of "plane_of" (defScope s_plane_of) f cdv A outer s H E).nox [] (defBody s_plane_of) r_plane_of :=
  (qss_cons (qs_set 3 sc_plane_of.nd (qe_len g.len (qa_cons (qp_var 1) qa_nil)))
  (qss_cons (qs_asgT (QE.v (qe_call h_reduced (hr.mono (by decide)) (qa_cons ((QE.v (qe_call h_open_rows (hr.mono (by decide)) (qa_cons (qp_var 0) (qa_cons (qp_var 1) (qa_cons (qp_var 2) qa_nil)))))).p (qa_cons ((QE.v (qe_listrg rfl g.list g.range (qv_var 3)))).p qa_nil)))) (qg_tup 2 rfl (qgs_cons (qg_name 4 sc_plane_of.nd) (qgs_cons (qg_name 5 sc_plane_of.nd) qgs_nil))))
  (qss_cons (qs_if (qt_call (QE.v (qe_any rfl g.any (qa_cons ((QE.v (qe_lc (own := [("row", 6)]) rfl sc_plane_of.nd (qf_seq (QE.v (qe_slice (qp_var 4) (qi_some (QE.v (qe_len g.len (qa_cons (qp_var 5) qa_nil)))) qi_none))) (blkOk_by (by rfl)) (fun _ _ _ _ _ => (qg_name 6 sc_plane_of.nd)) (fun _ _ _ _ _ => qts_nil) (fun _ _ _ _ _ => (qv_ne hr.units ((qv_ix (qp_var 6) (qp_var 3))).p ((g.ZERO)).p))))).p qa_nil)))) (qss_one (qs_ret (QV.o qv_non))) qss_nil)
  (qss_cons (qs_setLc (own := [("figure", 8)]) 7 rfl sc_plane_of.nd (qf_range1 g.range (QE.v (qe_len g.len (qa_cons ((qv_ix (qp_var 0) (qv_int).p)).p qa_nil)))) (blkOk_by (by rfl)) (fun _ _ _ _ _ => (qg_name 8 sc_plane_of.nd)) (fun _ _ _ _ _ => qts_nil) (fun _ _ _ _ _ => (QE.v (qe_if (qt_in (qp_var 8) (qp_var 1)) (QV.o (g.ZERO)) (QV.o (qv_ix (qp_var 2) (qp_var 8)))))))
  (qss_cons (qs_forT 2 PassesOwn.never rfl (qf_zip g.zip (qv_var 4) (qv_var 5)) (qgs_cons (qg_name 6 sc_plane_of.nd) (qgs_cons (qg_name 9 sc_plane_of.nd) qgs_nil)) (qss_one (qs_setIx 7 (qv_ix (qp_var 6) (qp_var 3)) (qv_ix (qp_var 1) (qp_var 9)))))
  (qss_one (qs_ret (QV.o (qv_tup (ql_cons (QE.v (qe_tuple g.tuple (qa_cons (qp_var 7) qa_nil))) (ql_cons (QE.v (qe_call h_free_moves (hr.mono (by decide)) (qa_cons (qp_var 4) (qa_cons (qp_var 5) (qa_cons (qp_var 1) (qa_cons ((QE.v (qe_len g.len (qa_cons (qp_var 7) qa_nil)))).p qa_nil)))))) ql_nil)))))))))))

/-! ### whole_plane -/
abbrev s_whole_plane : Stmt := topS 27
abbrev n_whole_plane : List Str := ["book"]
theorem sc_whole_plane : FnScope n_whole_plane ["book"] (defScope s_whole_plane) := ⟨rfl, rfl, rfl, by decide +kernel, rfl, by decide +kernel, by decide +kernel⟩
def r_whole_plane : RS := (rRet (rCall sp_plane_of (rACons (rN 0) (rACons (rP (rD (rListRg (rD (rCB fLen (rACons (rP (rD (rOp dIx (rN 0) (rP (rC (.int 0)))))) rANil)))))) (rACons (rP (rD (rOp dMul (rP (rTup (rCons (rC .none) rNil))) (rP (rD (rCB fLen (rACons (rP (rD (rOp dIx (rN 0) (rP (rC (.int 0)))))) rANil))))))) rANil)))))
theorem q_whole_plane {P : Program} {w : World} {K : Fg} {mg : Str → Option Value} {base : Heap} {f : Addr} (g : Gs K mg) (h_plane_of : Has P w K mg base "plane_of" ["book", "free", "worths"] 5 sp_plane_of) (cdv : Value) (A : Around) (outer : List PySem.Env) (s : Shared) (H : Hp) (E : XK) (hr : Room 5 (A.deeper (envOfC "whole_plane" (defScope s_whole_plane) s.heap.objs.size f cdv))) :
    QSs (cxOf CX0 P w K mg base n_whole_plane "whole_plane" (defScope s_whole_plane) f cdv A outer s H E).nox [] (defBody s_whole_plane) r_whole_plane :=
  (qss_one (qs_ret (qe_call h_plane_of (hr.mono (by decide)) (qa_cons (qp_var 0) (qa_cons ((QE.v (qe_listrg rfl g.list g.range (QE.v (qe_len g.len (qa_cons ((qv_ix (qp_var 0) (qv_int).p)).p qa_nil)))))).p (qa_cons ((QE.v (qe_mul ((qv_tup (ql_cons qv_non ql_nil))).p ((QE.v (qe_len g.len (qa_cons ((qv_ix (qp_var 0) (qv_int).p)).p qa_nil)))).p))).p qa_nil))))))

/-! ### moved_far -/
abbrev s_moved_far : Stmt := topS 28
abbrev n_moved_far : List Str := ["world", "move", "worth", "step"]
theorem sc_moved_far : FnScope n_moved_far ["world", "move"] (defScope s_moved_far) := ⟨rfl, rfl, rfl, by decide +kernel, rfl, by decide +kernel, by decide +kernel⟩
def r_moved_far : RS := (rRet (rCB fTuple (rACons (rP (rD (rLcT (rZip (rVar 0) (rVar 1)) 2 (rGcons (rGn 2) (rGcons (rGn 3) rGnil)) rYes (rD (rCall sp_plus_of (rACons (rN 2) (rACons (rN 3) rANil)))) [2, 3]))) rANil)))
theorem q_moved_far {P : Program} {w : World} {K : Fg} {mg : Str → Option Value} {base : Heap} {f : Addr} (g : Gs K mg) (h_plus_of : Has P w K mg base "plus_of" ["one", "other"] 2 sp_plus_of) (cdv : Value) (A : Around) (outer : List PySem.Env) (s : Shared) (H : Hp) (E : XK) (hr : Room 2 (A.deeper (envOfC "moved_far" (defScope s_moved_far) s.heap.objs.size f cdv))) :
    QSs (cxOf CX0 P w K mg base n_moved_far "moved_far" (defScope s_moved_far) f cdv A outer s H E).nox [] (defBody s_moved_far) r_moved_far :=
  (qss_one (qs_ret (qe_tuple g.tuple (qa_cons ((QE.v (qe_lcT (own := [("worth", 2), ("step", 3)]) 2 rfl sc_moved_far.nd (qf_zip g.zip (qv_var 0) (qv_var 1)) (blkOk_by (by rfl)) (fun _ _ _ _ _ => (qgs_cons (qg_name 2 sc_moved_far.nd) (qgs_cons (qg_name 3 sc_moved_far.nd) qgs_nil))) (fun _ _ _ _ _ => qts_nil) (fun _ _ _ _ _ => (QE.v (qe_call h_plus_of (hr.mono (by decide)) (qa_cons (qp_var 2) (qa_cons (qp_var 3) qa_nil)))))))).p qa_nil))))

/-! ### a_world -/
abbrev s_a_world : Stmt := topS 30
abbrev n_a_world : List Str := ["book", "plane"]
theorem sc_a_world : FnScope n_a_world ["book"] (defScope s_a_world) := ⟨rfl, rfl, rfl, by decide +kernel, rfl, by decide +kernel, by decide +kernel⟩
def r_a_world : RS := (rSeq (rSet 1 (rCall sp_whole_plane (rACons (rN 0) rANil)))
  (rRet (rIf (rCmp (dIsN false) (rN 1) (rP (rC .none))) (rO (rC .none)) (rO (rD (rOp dIx (rN 1) (rP (rC (.int 0)))))))))
theorem q_a_world {P : Program} {w : World} {K : Fg} {mg : Str → Option Value} {base : Heap} {f : Addr} (g : Gs K mg) (h_whole_plane : Has P w K mg base "whole_plane" ["book"] 6 sp_whole_plane) (cdv : Value) (A : Around) (outer : List PySem.Env) (s : Shared) (H : Hp) (E : XK) (hr : Room 6 (A.deeper (envOfC "a_world" (defScope s_a_world) s.heap.objs.size f cdv))) :
    QSs (cxOf CX0 P w K mg base n_a_world "a_world" (defScope s_a_world) f cdv A outer s H E).nox [] (defBody s_a_world) r_a_world :=
  (qss_cons (qs_set 1 sc_a_world.nd (qe_call h_whole_plane (hr.mono (by decide)) (qa_cons (qp_var 0) qa_nil)))
  (qss_one (qs_ret (qe_if (qt_isN (qp_var 1) (qv_non).p) (QV.o qv_non) (QV.o (qv_ix (qp_var 1) (qv_int).p))))))

/-! ### need_world -/
abbrev s_need_world : Stmt := topS 31
abbrev n_need_world : List Str := ["book"]
theorem sc_need_world : FnScope n_need_world ["book"] (defScope s_need_world) := ⟨rfl, rfl, rfl, by decide +kernel, rfl, by decide +kernel, by decide +kernel⟩
def r_need_world : RS := (rIfS (rCmp (dIsN false) (rP (rD (rCall sp_a_world (rACons (rN 0) rANil)))) (rP (rC .none))) rNever rNext)
theorem q_need_world {P : Program} {w : World} {K : Fg} {mg : Str → Option Value} {base : Heap} {f : Addr} (g : Gs K mg) (h_a_world : Has P w K mg base "a_world" ["book"] 7 sp_a_world) (cdv : Value) (A : Around) (outer : List PySem.Env) (s : Shared) (H : Hp) (E : XK) (hr : Room 7 (A.deeper (envOfC "need_world" (defScope s_need_world) s.heap.objs.size f cdv))) :
    QSs (cxOf CX0 P w K mg base n_need_world "need_world" (defScope s_need_world) f cdv A outer s H E).nox [] (defBody s_need_world) r_need_world :=
  (qss_one (qs_if (qt_isN ((QE.v (qe_call h_a_world (hr.mono (by decide)) (qa_cons (qp_var 0) qa_nil)))).p (qv_non).p) (qss_one qs_never) qss_nil))

theorem boolsOf_of {α : Type} (f : α → Bool) : ∀ xs : List α, boolsOf (xs.map fun x => PyData.bool (f x)) = some (xs.map f)
  | [] => rfl
  | x :: xs => by
    rw [List.map_cons, boolsOf, boolsOf_of f xs]
    rfl
theorem m_plane_of (os : List O) (Q : O → List O → Prop) (h : sp_plane_of os Q) : Ends r_plane_of n_plane_of os Q := by
  obtain ⟨rows, ns, n, k, w, rfl, hns, ok, q⟩ := h
  have ln : (natD (List.range n)).length = n := by rw [natD_len, List.length_range]
  have hn := ok.n4
  have hf := ok.few
  have kk := ok.kk
  have rok := red_ok ok
  have rlt := red_lt n rows
  have rfit := red_fit ok
  have efit := ok.fit
  unfold planeD voidB at q
  have edef : redAll (augM rows) (List.range n) = red n rows := rfl
  walk_at "wh"
  refine ⟨rows, ns, n, w, rfl, ok.wide, hf, hn, ?_⟩
  walk_at "go"
  rw [ln]
  · refine ⟨augM rows, List.range n, n + 1, k, ?_, by rw [show (augM rows).length = rows.length from List.length_map _]; omega, aug_wide ok.wide, by omega, fun c hc => by have := List.mem_range.mp hc; omega, kk, efit, ?_⟩
    · show [O.d (matD (augM rows)), O.d (.list (rngD 0 (n : Nat)))] = _
      rw [rngD_nat]
    rw [edef]
    generalize red n rows = st at *
    obtain ⟨M, ls⟩ := st
    have lM : M.length = rows.length := rok.len
    have lls : ls.length ≤ rows.length := rok.few
    have wM : Wide (n + 1) M := rok.wide
    have ec : cut ((M, ls).fst.map rowD) (some ((natD (M, ls).snd).length : Nat)) none = (M.drop ls.length).map rowD := by
      rw [show (natD (M, ls).snd).length = ls.length from natD_len ls, cut_drop, List.map_drop]
    dsimp only at q rfit rlt
    walk_at "go"
    · rw [ec]
      refine lc_mapE (fun e => e = [some (.d (bookD ns rows)), some (.d (.list (natD (List.range n)))), some (.d w), some (.d (.int (n : Nat))), some (.d (matD M)), some (.d (.list (natD ls))), none, none, none, none]) (ys := (M.drop ls.length).map fun r => .bool (decide (r.getD n 0 ≠ 0))) rfl (by simp) (by rw [List.length_map, List.length_drop]; omega) ?_ ?_
      · rintro j x y k' _ rfl hx hy hk'
        obtain ⟨r, hr, rfl⟩ := get_map hx
        rw [List.getElem?_map, hr] at hy
        have hy2 : y = .bool (decide (r.getD n 0 ≠ 0)) := (Option.some.inj hy).symm
        subst hy2
        have hrm : r ∈ M := List.mem_of_mem_drop (List.mem_of_getElem? hr)
        obtain ⟨v, hv, _⟩ := getAt (show n < r.length by rw [wM r hrm]; omega)
        have ev : r.getD n 0 = v := by rw [List.getD_eq_getElem?_getD, hv]; rfl
        walk_at "go"
        refine ⟨_, atI_map hv, ?_⟩
        walk_at "go"
        · have := hk' [some (.d (bookD ns rows)), some (.d (.list (natD (List.range n)))), some (.d w), some (.d (.int (n : Nat))), some (.d (matD M)), some (.d (.list (natD ls))), some (.d (rowD r)), none, none, none] rfl
          rw [ev] at this
          have e2 : (!PyData.eqv (qD v) d_ZERO) = decide (v ≠ 0) := by rw [ne_zero]; simp
          rw [← e2] at this
          exact this
        · rfl
        · rfl
      rintro e rfl
      walk_at "go"
      refine ⟨_, boolsOf_of _ _, ?_⟩
      have ean : (((M.drop ls.length).map fun r => decide (r.getD n 0 ≠ 0)).any id) = (M.drop ls.length).any fun r => decide (r.getD n 0 ≠ 0) := by
        rw [List.any_map]
        rfl
      walk_at "go"
      refine decI (fun h => ?_) (fun h => ?_)
      · have h : ((M.drop ls.length).any fun r => decide (r.getD n 0 ≠ 0)) = true := by rw [← ean]; exact h
        rw [if_pos h] at q
        walk_at "go"
        exact q
      · have h : ¬ ((M.drop ls.length).any fun r => decide (r.getD n 0 ≠ 0)) = true := by rw [← ean]; exact h
        rw [if_neg h] at q
        walk_at "go"
        · refine lc_mapE (fun e => e = [some (.d (bookD ns rows)), some (.d (.list (natD (List.range n)))), some (.d w), some (.d (.int (n : Nat))), some (.d (matD M)), some (.d (.list (natD ls))), none, none, none, none]) (ys := (List.replicate n (0 : Rat)).map qD) rfl (by rw [rngD_len, List.length_map, List.length_map, List.length_replicate]; omega) (by rw [rngD_len, List.length_map]; omega) ?_ ?_
          · rintro j x y k' _ rfl hx hy hk'
            obtain ⟨ex, hj⟩ := rngD_at hx
            rw [List.length_map] at hj
            have hj : j < n := by omega
            have ez : (0 + (j : Nat) : Int) = ((j : Nat) : Int) := Int.zero_add _
            rw [ez] at ex
            subst ex
            obtain ⟨b, hb, rfl⟩ := get_map hy
            have hb : b = 0 := by
              rw [List.getElem?_replicate, if_pos hj] at hb
              exact (Option.some.inj hb).symm
            subst hb
            walk_at "go"
            · refine decI (fun h => ?_) (fun h => ?_)
              · walk_at "wh"
                exact hk' _ rfl
              · have h : ¬ inD (.int (j : Nat)) (natD (List.range n)) = true := h
                rw [inD_nat] at h
                simp [hj] at h
            · exact flat_nat _
            · rfl
          rintro e rfl
          walk_at "go"
          refine ⟨fun j e => ∃ o6 o9, e = [some (.d (bookD ns rows)), some (.d (.list (natD (List.range n)))), some (.d w), some (.d (.int (n : Nat))), some (.d (matD M)), some (.d (.list (natD ls))), o6,
            some (.own ((((List.zip M ls).take j).foldl (fun v p => v.set p.2 (p.1.getD n 0)) (List.replicate n (0 : Rat))).map qD)), none, o9], ⟨none, none, rfl⟩, ?_, ?_⟩
          · rintro j xs e hx ⟨o6, o9, rfl⟩
            obtain ⟨r, l, hr, hl1, rfl⟩ := zipD_at (f := rowD) (g := fun n : Nat => PyData.int (n : Nat)) hx
            have hrm := List.mem_of_getElem? hr
            have hln := rlt l (List.mem_of_getElem? hl1)
            obtain ⟨y, hy, hym⟩ := getAt (show n < r.length by rw [wM r hrm]; omega)
            refine ⟨rfl, ?_⟩
            walk_at "go"
            refine ⟨_, atI_map hy, ?_⟩
            walk_at "go"
            refine ⟨_, atI_range hln, ?_⟩
            walk_at "wh"
            refine ⟨l, ixN_nat ?_, ?_⟩
            · rw [List.length_map, set_fold_len (fun p : List Rat × Nat => p.2) (fun p => p.1.getD n 0), List.length_replicate]
              exact hln
            rw [map_set2]
            walk_at "wh"
            rw [zip_take_succ _ _ _ _ _ _ _ hr hl1]
            have ey : r.getD n 0 = y := by rw [List.getD_eq_getElem?_getD, hy]; rfl
            dsimp only
            rw [ey]
            exact ⟨_, _, rfl⟩
          · rintro e ⟨o6, o9, rfl⟩
            have el : (List.zip M ls).take (zipD (M.map rowD) (natD ls)).length = List.zip M ls := by
              refine List.take_of_length_le ?_
              show (List.zip M ls).length ≤ (zipD (M.map rowD) (ls.map fun n : Nat => PyData.int (n : Nat))).length
              rw [zipD_len, List.length_zip]
              exact Nat.le_refl _
            rw [el]
            have lw := worldP_len M ls n
            walk_at "wh"
            have ew : ((List.zip M ls).foldl (fun v p => v.set p.2 (p.1.getD n 0)) (List.replicate n (0 : Rat))) = worldP M ls n := rfl
            rw [ew]
            refine ⟨M, ls, n, k, ?_, wM, rlt, hn, by omega, rfit, by omega, ?_⟩
            · show [O.d (matD M), O.d (.list (natD ls)), O.d (.list (natD (List.range n))), O.d (.int (((worldP M ls n).map qD).length : Nat))] = _
              rw [List.length_map, lw]
            walk_at "go"
            · exact q
            · exact (by decide : 2 ≤ sizeLine)
        · rw [List.length_map]
          omega
        · rw [List.length_map]
          omega
    · rfl
  · omega
  · omega
theorem m_whole_plane (os : List O) (Q : O → List O → Prop) (h : sp_whole_plane os Q) : Ends r_whole_plane n_whole_plane os Q := by
  obtain ⟨rows, ns, k, rfl, ok, q⟩ := h
  have h2 := ok.n2
  have h4 := ok.n4
  have ls : (ns.map PyData.str).length = ns.length := List.length_map _
  walk_at "go"
  · refine ⟨rows, ns, ns.length, k, .tuple (List.replicate (((ns.map PyData.str).length : Nat) : Int).toNat [PyData.none]).flatten, ?_, rfl, ok, q⟩
    rw [ls, rngD_nat]
  all_goals first | exact (by decide : 1 ≤ sizeLine) | exact (by decide : 1 ≤ 1000) | (rw [ls]; omega) | exact Int.natCast_nonneg _ | exact fun z => nomatch z
theorem m_moved_far (os : List O) (Q : O → List O → Prop) (h : sp_moved_far os Q) : Ends r_moved_far n_moved_far os Q := by
  obtain ⟨u, v, k, l, rfl, hl, hn, hu, hv, hk, q⟩ := h
  walk_at "go"
  refine lcT_mapE (fun e => e = [some (.d (tupQs u)), some (.d (rowD v)), none, none]) (ys := (List.zipWith (· + ·) u v).map qD) rfl (by rw [zipD_len, List.length_map, List.length_zipWith]) (by rw [zipD_len]; omega) ?_ ?_
  · rintro j xs y k' _ rfl hx hy hk'
    obtain ⟨a, b, ha, hb, rfl⟩ := zipD_at hx
    obtain ⟨c, hc, rfl⟩ := get_map hy
    rw [List.getElem?_zipWith, ha, hb] at hc
    have hc := (Option.some.inj hc).symm
    subst hc
    refine ⟨rfl, ?_⟩
    walk_at "wh"
    exact ⟨a, b, k, l, rfl, hu a (List.mem_of_getElem? ha), hv b (List.mem_of_getElem? hb), hk, hk' _ rfl⟩
  rintro e rfl
  walk_at "go"
  exact q
theorem m_a_world (os : List O) (Q : O → List O → Prop) (h : sp_a_world os Q) : Ends r_a_world n_a_world os Q := by
  obtain ⟨rows, ns, k, rfl, ok, q⟩ := h
  walk_at "wh"
  refine ⟨rows, ns, k, rfl, ok, ?_⟩
  unfold aWorldD at q
  unfold planeD
  by_cases h : voidB ns.length rows = true
  · rw [if_pos h] at q ⊢
    walk_at "go"
    exact q
  · rw [if_neg h] at q ⊢
    walk_at "go"
    exact q
theorem m_need_world (os : List O) (Q : O → List O → Prop) (h : sp_need_world os Q) : Ends r_need_world n_need_world os Q := by
  obtain ⟨rows, ns, k, rfl, ok, hv, q⟩ := h
  walk_at "wh"
  refine ⟨rows, ns, k, rfl, ok, ?_⟩
  unfold aWorldD
  rw [if_neg (by rw [hv]; decide)]
  walk_at "go"
  exact q
theorem f_plane_of {P : Program} {w : World} {K : Fg} {mg : Str → Option Value} {base : Heap} {f : Addr} {fd : FuncData} (g : Gs K mg) (h_reduced : Has P w K mg base "reduced" ["rows", "columns"] 4 sp_reduced) (h_open_rows : Has P w K mg base "open_rows" ["book", "free", "worths"] 4 sp_open_rows) (h_free_moves : Has P w K mg base "free_moves" ["rows", "leads", "free", "many"] 3 sp_free_moves) (F : Fun K "plane_of" "plane_of" s_plane_of f fd) : FnOk P w K mg base CX0 5 f fd ["book", "free", "worths"] (SpOf K sp_plane_of) :=
  fn_ok F sc_plane_of [] (fun cdv A outer s H E hr => q_plane_of g h_reduced h_open_rows h_free_moves cdv A outer s H E hr) (by walk_at "len") (by walk_at "keep") m_plane_of
theorem mono_plane_of : sp_plane_of.Mono := by walk_at "mono"

theorem f_whole_plane {P : Program} {w : World} {K : Fg} {mg : Str → Option Value} {base : Heap} {f : Addr} {fd : FuncData} (g : Gs K mg) (h_plane_of : Has P w K mg base "plane_of" ["book", "free", "worths"] 5 sp_plane_of) (F : Fun K "whole_plane" "whole_plane" s_whole_plane f fd) : FnOk P w K mg base CX0 6 f fd ["book"] (SpOf K sp_whole_plane) :=
  fn_ok F sc_whole_plane [] (fun cdv A outer s H E hr => q_whole_plane g h_plane_of cdv A outer s H E hr) (by walk_at "len") (by walk_at "keep") m_whole_plane
theorem mono_whole_plane : sp_whole_plane.Mono := by walk_at "mono"

theorem f_moved_far {P : Program} {w : World} {K : Fg} {mg : Str → Option Value} {base : Heap} {f : Addr} {fd : FuncData} (g : Gs K mg) (h_plus_of : Has P w K mg base "plus_of" ["one", "other"] 2 sp_plus_of) (F : Fun K "moved_far" "moved_far" s_moved_far f fd) : FnOk P w K mg base CX0 3 f fd ["world", "move"] (SpOf K sp_moved_far) :=
  fn_ok F sc_moved_far [] (fun cdv A outer s H E hr => q_moved_far g h_plus_of cdv A outer s H E hr) (by walk_at "len") (by walk_at "keep") m_moved_far
theorem mono_moved_far : sp_moved_far.Mono := by walk_at "mono"

theorem f_a_world {P : Program} {w : World} {K : Fg} {mg : Str → Option Value} {base : Heap} {f : Addr} {fd : FuncData} (g : Gs K mg) (h_whole_plane : Has P w K mg base "whole_plane" ["book"] 6 sp_whole_plane) (F : Fun K "a_world" "a_world" s_a_world f fd) : FnOk P w K mg base CX0 7 f fd ["book"] (SpOf K sp_a_world) :=
  fn_ok F sc_a_world [] (fun cdv A outer s H E hr => q_a_world g h_whole_plane cdv A outer s H E hr) (by walk_at "len") (by walk_at "keep") m_a_world
theorem mono_a_world : sp_a_world.Mono := by walk_at "mono"

theorem f_need_world {P : Program} {w : World} {K : Fg} {mg : Str → Option Value} {base : Heap} {f : Addr} {fd : FuncData} (g : Gs K mg) (h_a_world : Has P w K mg base "a_world" ["book"] 7 sp_a_world) (F : Fun K "need_world" "need_world" s_need_world f fd) : FnOk P w K mg base CX0 8 f fd ["book"] (SpOf K sp_need_world) :=
  fn_ok F sc_need_world [] (fun cdv A outer s H E hr => q_need_world g h_a_world cdv A outer s H E hr) (by walk_at "len") (by walk_at "keep") m_need_world
theorem mono_need_world : sp_need_world.Mono := by walk_at "mono"

end K82
set_option Elab.async false
set_option linter.all false
set_option maxRecDepth 100000
set_option maxHeartbeats 4000000
set_option exponentiation.threshold 20000
set_option pp.deepTerms false
set_option pp.maxSteps 500
namespace K82
open PySem PySem.Spec PyProof.Rows L2 Pf
local macro_rules | `(tactic| walk_at "go") => `(tactic| (conv => whnf) <;> repeat ((first | refine atE rfl ?_ | refine andR ?_ ?_); (conv => whnf)))
local macro_rules | `(tactic| walk_at "wh") => `(tactic| conv => whnf)
local macro_rules | `(tactic| walk_at "len") => `(tactic| (intro os Q h; (repeat (obtain ⟨_, h⟩ := h)); subst_vars; rfl))
local macro_rules | `(tactic| walk_at "keep") => `(tactic| (intro os Q h; (repeat (obtain ⟨_, h⟩ := h)); subst_vars; simp [keepOk]))
local macro_rules | `(tactic| walk_at "mono") => `(tactic| (intro os k k' f; repeat (first | exact f _ _ | refine Exists.imp fun _ => ?_ | refine And.imp_right ?_ | refine forall_imp fun _ => ?_)))
/-! the row form -/
/-- the row form as the program makes it -/
def formP (n : Nat) (rows : List Sm) : List Sm := ((red n rows).1.take (red n rows).2.length).map fun r => normRow (r.take n) (r.getD n 0)
structure FormOk (n k : Nat) (rows : List Sm) : Prop extends BookOk n k rows where
  sound : voidB n rows = false
  norm : ∀ r ∈ (red n rows).1.take (red n rows).2.length, NormOk (r.take n) k
def sp_told_rows : FSp := fun os Q => ∃ (rows : List Sm) (ns : List Str), os = [.d (bookD ns rows)] ∧ rows.length ≤ 400 ∧ (∀ s ∈ rows, s.1.length ≤ 400) ∧ Q (.own ((augM rows).map rowD)) os
def sp_row_form_by : FSp := fun os Q => ∃ (rows : List Sm) (ns : List Str) (n k : Nat), os = [.d (bookD ns rows), .d (.list (natD (List.range n)))] ∧ BookOk n k rows ∧ Q (.own (((red n rows).1.take (red n rows).2.length).map rowD)) os
def sp_row_form : FSp := fun os Q => ∃ (rows : List Sm) (ns : List Str) (k : Nat), os = [.d (bookD ns rows)] ∧ FormOk ns.length k rows ∧ Q (.d (sumsD (formP ns.length rows))) os
def sp_rank_of : FSp := fun os Q => ∃ (rows : List Sm) (ns : List Str) (k : Nat), os = [.d (bookD ns rows)] ∧ FormOk ns.length k rows ∧ Q (.d (.int ((formP ns.length rows).length : Nat))) os
/-! ### told_rows -/
abbrev s_told_rows : Stmt := topS 33
abbrev n_told_rows : List Str := ["book", "part", "parts", "due"]
theorem sc_told_rows : FnScope n_told_rows ["book"] (defScope s_told_rows) := ⟨rfl, rfl, rfl, by decide +kernel, rfl, by decide +kernel, by decide +kernel⟩
def r_told_rows : RS := (rRet (rLc (rFs (rD (rOp dIx (rN 0) (rP (rC (.int 1)))))) (rGt 2 (rGcons (rGn 2) (rGcons (rGn 3) rGnil))) rYes (rD (rOp dAdd (rP (rD (rLc (rFs (rVar 2)) (rGn 1) rYes (rD (rCall sp_whole (rACons (rN 1) rANil))) [1]))) (rP (rD (rLst (rCons (rVar 3) rNil)))))) [2, 3]))
theorem q_told_rows {P : Program} {w : World} {K : Fg} {mg : Str → Option Value} {base : Heap} {f : Addr} (g : Gs K mg) (h_whole : Has P w K mg base "whole" ["number"] 1 sp_whole) (cdv : Value) (A : Around) (outer : List PySem.Env) (s : Shared) (H : Hp) (E : XK) (hr : Room 1 (A.deeper (envOfC "told_rows" (defScope s_told_rows) s.heap.objs.size f cdv))) :
    QSs (cxOf CX0 P w K mg base n_told_rows "told_rows" (defScope s_told_rows) f cdv A outer s H E).nox [] (defBody s_told_rows) r_told_rows :=
  (qss_one (qs_ret (qe_lc (own := [("parts", 2), ("due", 3)]) rfl sc_told_rows.nd (qf_seq (qv_ix (qp_var 0) (qv_int).p)) (blkOk_by (by rfl)) (fun _ _ _ _ _ => (qg_tup 2 rfl (qgs_cons (qg_name 2 sc_told_rows.nd) (qgs_cons (qg_name 3 sc_told_rows.nd) qgs_nil)))) (fun _ _ _ _ _ => qts_nil) (fun _ _ _ _ _ => (QE.v (qe_add ((QE.v (qe_lc (own := [("part", 1)]) rfl sc_told_rows.nd (qf_seq (qv_var 2)) (blkOk_by (by rfl)) (fun _ _ _ _ _ => (qg_name 1 sc_told_rows.nd)) (fun _ _ _ _ _ => qts_nil) (fun _ _ _ _ _ => (QE.v (qe_call h_whole (hr.mono (by decide)) (qa_cons (qp_var 1) qa_nil))))))).p ((QE.v (qe_lst (ql_cons (qv_var 3) ql_nil)))).p))))))

/-! ### row_form_by -/
abbrev s_row_form_by : Stmt := topS 35
abbrev n_row_form_by : List Str := ["book", "columns", "rows", "leads"]
theorem sc_row_form_by : FnScope n_row_form_by ["book", "columns"] (defScope s_row_form_by) := ⟨rfl, rfl, rfl, by decide +kernel, rfl, by decide +kernel, by decide +kernel⟩
def r_row_form_by : RS := (rSeq (rAsgT (rD (rCall sp_reduced (rACons (rP (rD (rCall sp_told_rows (rACons (rN 0) rANil)))) (rACons (rN 1) rANil)))) (rGt 2 (rGcons (rGn 2) (rGcons (rGn 3) rGnil))))
  (rRet (rSl (rN 2) rNoI (rSoI (rD (rCB fLen (rACons (rN 3) rANil)))))))
theorem q_row_form_by {P : Program} {w : World} {K : Fg} {mg : Str → Option Value} {base : Heap} {f : Addr} (g : Gs K mg) (h_reduced : Has P w K mg base "reduced" ["rows", "columns"] 4 sp_reduced) (h_told_rows : Has P w K mg base "told_rows" ["book"] 2 sp_told_rows) (cdv : Value) (A : Around) (outer : List PySem.Env) (s : Shared) (H : Hp) (E : XK) (hr : Room 4 (A.deeper (envOfC "row_form_by" (defScope s_row_form_by) s.heap.objs.size f cdv))) :
    QSs (cxOf CX0 P w K mg base n_row_form_by "row_form_by" (defScope s_row_form_by) f cdv A outer s H E).nox [] (defBody s_row_form_by) r_row_form_by :=
  (qss_cons (qs_asgT (QE.v (qe_call h_reduced (hr.mono (by decide)) (qa_cons ((QE.v (qe_call h_told_rows (hr.mono (by decide)) (qa_cons (qp_var 0) qa_nil)))).p (qa_cons (qp_var 1) qa_nil)))) (qg_tup 2 rfl (qgs_cons (qg_name 2 sc_row_form_by.nd) (qgs_cons (qg_name 3 sc_row_form_by.nd) qgs_nil))))
  (qss_one (qs_ret (qe_slice (qp_var 2) qi_none (qi_some (QE.v (qe_len g.len (qa_cons (qp_var 3) qa_nil))))))))

/-! ### row_form -/
abbrev s_row_form : Stmt := topS 36
abbrev n_row_form : List Str := ["book", "row"]
theorem sc_row_form : FnScope n_row_form ["book"] (defScope s_row_form) := ⟨rfl, rfl, rfl, by decide +kernel, rfl, by decide +kernel, by decide +kernel⟩
def r_row_form : RS := (rSeq (rDrop (rCall sp_need_world (rACons (rN 0) rANil)))
  (rRet (rCB fTuple (rACons (rP (rD (rLc (rFs (rD (rCall sp_row_form_by (rACons (rN 0) (rACons (rP (rD (rListRg (rD (rCB fLen (rACons (rP (rD (rOp dIx (rN 0) (rP (rC (.int 0)))))) rANil)))))) rANil))))) (rGn 1) rYes (rD (rCall sp_sum_of_row (rACons (rN 1) rANil))) [1]))) rANil))))
theorem q_row_form {P : Program} {w : World} {K : Fg} {mg : Str → Option Value} {base : Heap} {f : Addr} (g : Gs K mg) (h_need_world : Has P w K mg base "need_world" ["book"] 8 sp_need_world) (h_sum_of_row : Has P w K mg base "sum_of_row" ["row"] 3 sp_sum_of_row) (h_row_form_by : Has P w K mg base "row_form_by" ["book", "columns"] 5 sp_row_form_by) (cdv : Value) (A : Around) (outer : List PySem.Env) (s : Shared) (H : Hp) (E : XK) (hr : Room 8 (A.deeper (envOfC "row_form" (defScope s_row_form) s.heap.objs.size f cdv))) :
    QSs (cxOf CX0 P w K mg base n_row_form "row_form" (defScope s_row_form) f cdv A outer s H E).nox [] (defBody s_row_form) r_row_form :=
  (qss_cons (qs_expr (qe_call h_need_world (hr.mono (by decide)) (qa_cons (qp_var 0) qa_nil)))
  (qss_one (qs_ret (qe_tuple g.tuple (qa_cons ((QE.v (qe_lc (own := [("row", 1)]) rfl sc_row_form.nd (qf_seq (QE.v (qe_call h_row_form_by (hr.mono (by decide)) (qa_cons (qp_var 0) (qa_cons ((QE.v (qe_listrg rfl g.list g.range (QE.v (qe_len g.len (qa_cons ((qv_ix (qp_var 0) (qv_int).p)).p qa_nil)))))).p qa_nil))))) (blkOk_by (by rfl)) (fun _ _ _ _ _ => (qg_name 1 sc_row_form.nd)) (fun _ _ _ _ _ => qts_nil) (fun _ _ _ _ _ => (QE.v (qe_call h_sum_of_row (hr.mono (by decide)) (qa_cons (qp_var 1) qa_nil))))))).p qa_nil)))))

/-! ### rank_of -/
abbrev s_rank_of : Stmt := topS 37
abbrev n_rank_of : List Str := ["book"]
theorem sc_rank_of : FnScope n_rank_of ["book"] (defScope s_rank_of) := ⟨rfl, rfl, rfl, by decide +kernel, rfl, by decide +kernel, by decide +kernel⟩
def r_rank_of : RS := (rRet (rCB fLen (rACons (rP (rD (rCall sp_row_form (rACons (rN 0) rANil)))) rANil)))
theorem q_rank_of {P : Program} {w : World} {K : Fg} {mg : Str → Option Value} {base : Heap} {f : Addr} (g : Gs K mg) (h_row_form : Has P w K mg base "row_form" ["book"] 9 sp_row_form) (cdv : Value) (A : Around) (outer : List PySem.Env) (s : Shared) (H : Hp) (E : XK) (hr : Room 9 (A.deeper (envOfC "rank_of" (defScope s_rank_of) s.heap.objs.size f cdv))) :
    QSs (cxOf CX0 P w K mg base n_rank_of "rank_of" (defScope s_rank_of) f cdv A outer s H E).nox [] (defBody s_rank_of) r_rank_of :=
  (qss_one (qs_ret (qe_len g.len (qa_cons ((QE.v (qe_call h_row_form (hr.mono (by decide)) (qa_cons (qp_var 0) qa_nil)))).p qa_nil))))

theorem m_told_rows (os : List O) (Q : O → List O → Prop) (h : sp_told_rows os Q) : Ends r_told_rows n_told_rows os Q := by
  obtain ⟨rows, ns, rfl, hr, hw, q⟩ := h
  walk_at "go"
  refine lc_mapE (fun e => e = [some (.d (bookD ns rows)), none, none, none]) (ys := (augM rows).map rowD) rfl (by simp [augM]) (by rw [List.length_map]; omega) ?_ ?_
  · rintro j x y k' _ rfl hx hy hk'
    obtain ⟨s, hs, rfl⟩ := get_map hx
    have hy2 : y = rowD (augRow s) := by
      unfold augM at hy
      rw [List.getElem?_map, List.getElem?_map, hs] at hy
      exact (Option.some.inj hy).symm
    subst hy2
    have hn := hw s (List.mem_of_getElem? hs)
    walk_at "wh"
    refine ⟨rfl, ?_⟩
    walk_at "go"
    refine lc_mapE (fun e => e = [some (.d (bookD ns rows)), none, some (.d (.tuple (zD s.1))), some (.d (qD s.2))]) (ys := (s.1.map fun i : Int => (i : Rat)).map qD) rfl (by simp [zD]) (by unfold zD; rw [List.length_map]; omega) ?_ ?_
    · rintro i x y k'' _ rfl hx2 hy2 hk2
      obtain ⟨z, hz, rfl⟩ := get_map hx2
      have hy3 : y = qD (z : Rat) := by
        rw [List.getElem?_map, List.getElem?_map, hz] at hy2
        exact (Option.some.inj hy2).symm
      subst hy3
      walk_at "wh"
      exact ⟨z, rfl, hk2 _ rfl⟩
    rintro e rfl
    walk_at "go"
    · have e2 : rowD (augRow s) = .list ((s.1.map (fun i : Int => (i : Rat))).map qD ++ [qD s.2]) := by
        unfold rowD augRow
        rw [List.map_append]
        rfl
      rw [e2] at hk'
      exact hk' _ rfl
    · show ((s.1.map (fun i : Int => (i : Rat))).map qD).length + 1 ≤ sizeLine
      rw [List.length_map, List.length_map]
      exact Nat.le_of_lt (small64 (by omega))
    · exact (by decide : 1 ≤ sizeLine)
  · rintro e rfl
    exact q
theorem m_row_form_by (os : List O) (Q : O → List O → Prop) (h : sp_row_form_by os Q) : Ends r_row_form_by n_row_form_by os Q := by
  obtain ⟨rows, ns, n, k, rfl, ok, q⟩ := h
  have hf := ok.few
  have hn := ok.n4
  walk_at "wh"
  refine ⟨rows, ns, rfl, hf, fun s hs => by rw [ok.wide s hs]; exact hn, ?_⟩
  walk_at "wh"
  refine ⟨augM rows, List.range n, n + 1, k, rfl, by rw [show (augM rows).length = rows.length from List.length_map _]; omega, aug_wide ok.wide, by omega, fun c hc => by have := List.mem_range.mp hc; omega, ok.kk, ok.fit, ?_⟩
  have edef : redAll (augM rows) (List.range n) = red n rows := rfl
  rw [edef]
  generalize red n rows = st at *
  obtain ⟨M, ls⟩ := st
  have ec : cut ((M, ls).fst.map rowD) none (some ((natD (M, ls).snd).length : Nat)) = (M.take ls.length).map rowD := by
    rw [show (natD (M, ls).snd).length = ls.length from natD_len ls, cut_take, List.map_take]
  walk_at "go"
  · rw [ec]
    exact q
  · rfl
theorem m_row_form (os : List O) (Q : O → List O → Prop) (h : sp_row_form os Q) : Ends r_row_form n_row_form os Q := by
  obtain ⟨rows, ns, k, rfl, ok, q⟩ := h
  have b := ok.toBookOk
  have rok := red_ok b
  have rfit := red_fit b
  have hn := b.n4
  have hf := b.few
  have hnorm := ok.norm
  unfold formP at q
  walk_at "wh"
  refine ⟨rows, ns, k, rfl, b, ok.sound, ?_⟩
  walk_at "go"
  · refine ⟨rows, ns, ns.length, k, ?_, b, ?_⟩
    · show [O.d (bookD ns rows), O.d (.list (rngD 0 ((ns.map PyData.str).length : Nat)))] = _
      rw [List.length_map, rngD_nat]
    generalize red ns.length rows = st at *
    obtain ⟨M, ls⟩ := st
    dsimp only at q rfit hnorm
    have lM : M.length = rows.length := rok.len
    have wM : Wide (ns.length + 1) M := rok.wide
    walk_at "go"
    refine lc_mapE (fun e => e = [some (.d (bookD ns rows)), none]) (ys := ((M.take ls.length).map fun r => normRow (r.take ns.length) (r.getD ns.length 0)).map sumD) rfl (by simp) (by rw [List.length_map]; exact Nat.le_trans (List.length_take_le' _ _) (show M.length ≤ 1000 by omega)) ?_ ?_
    · rintro j x y k' _ rfl hx hy hk'
      obtain ⟨r, hr, rfl⟩ := get_map hx
      have hy2 : y = sumD (normRow (r.take ns.length) (r.getD ns.length 0)) := by
        rw [List.getElem?_map, List.getElem?_map, hr] at hy
        exact (Option.some.inj hy).symm
      subst hy2
      have hrt := List.mem_of_getElem? hr
      have hrm : r ∈ M := List.mem_of_mem_take hrt
      obtain ⟨v, hv, hvm⟩ := getAt (show ns.length < r.length by rw [wM r hrm]; omega)
      have ev : r.getD ns.length 0 = v := by rw [List.getD_eq_getElem?_getD, hv]; rfl
      have er : r = r.take ns.length ++ [v] := by
        have h1 := List.take_append_drop ns.length r
        have h2 : r.drop ns.length = [v] := by
          refine List.ext_getElem? fun i => ?_
          rw [List.getElem?_drop]
          cases i with
          | zero => exact hv
          | succ i => rw [List.getElem?_eq_none_iff.mpr (by rw [wM r hrm]; omega)]; rfl
        rw [h2] at h1
        exact h1.symm
      rw [ev] at hk'
      walk_at "wh"
      refine ⟨r.take ns.length, v, k, ?_, hnorm r hrt, rfit r hrm v hvm, hk' _ rfl⟩
      rw [← er]
    rintro e rfl
    walk_at "go"
    exact q
  · show ((ns.map PyData.str).length : Int) ≤ 16777216
    rw [List.length_map]
    omega
  · exact Int.natCast_nonneg _
theorem m_rank_of (os : List O) (Q : O → List O → Prop) (h : sp_rank_of os Q) : Ends r_rank_of n_rank_of os Q := by
  obtain ⟨rows, ns, k, rfl, ok, q⟩ := h
  walk_at "wh"
  refine ⟨rows, ns, k, rfl, ok, ?_⟩
  walk_at "wh"
  rw [List.length_map]
  exact q
theorem f_told_rows {P : Program} {w : World} {K : Fg} {mg : Str → Option Value} {base : Heap} {f : Addr} {fd : FuncData} (g : Gs K mg) (h_whole : Has P w K mg base "whole" ["number"] 1 sp_whole) (F : Fun K "told_rows" "told_rows" s_told_rows f fd) : FnOk P w K mg base CX0 2 f fd ["book"] (SpOf K sp_told_rows) :=
  fn_ok F sc_told_rows [] (fun cdv A outer s H E hr => q_told_rows g h_whole cdv A outer s H E hr) (by walk_at "len") (by walk_at "keep") m_told_rows
theorem mono_told_rows : sp_told_rows.Mono := by walk_at "mono"

theorem f_row_form_by {P : Program} {w : World} {K : Fg} {mg : Str → Option Value} {base : Heap} {f : Addr} {fd : FuncData} (g : Gs K mg) (h_reduced : Has P w K mg base "reduced" ["rows", "columns"] 4 sp_reduced) (h_told_rows : Has P w K mg base "told_rows" ["book"] 2 sp_told_rows) (F : Fun K "row_form_by" "row_form_by" s_row_form_by f fd) : FnOk P w K mg base CX0 5 f fd ["book", "columns"] (SpOf K sp_row_form_by) :=
  fn_ok F sc_row_form_by [] (fun cdv A outer s H E hr => q_row_form_by g h_reduced h_told_rows cdv A outer s H E hr) (by walk_at "len") (by walk_at "keep") m_row_form_by
theorem mono_row_form_by : sp_row_form_by.Mono := by walk_at "mono"

theorem f_row_form {P : Program} {w : World} {K : Fg} {mg : Str → Option Value} {base : Heap} {f : Addr} {fd : FuncData} (g : Gs K mg) (h_need_world : Has P w K mg base "need_world" ["book"] 8 sp_need_world) (h_sum_of_row : Has P w K mg base "sum_of_row" ["row"] 3 sp_sum_of_row) (h_row_form_by : Has P w K mg base "row_form_by" ["book", "columns"] 5 sp_row_form_by) (F : Fun K "row_form" "row_form" s_row_form f fd) : FnOk P w K mg base CX0 9 f fd ["book"] (SpOf K sp_row_form) :=
  fn_ok F sc_row_form [] (fun cdv A outer s H E hr => q_row_form g h_need_world h_sum_of_row h_row_form_by cdv A outer s H E hr) (by walk_at "len") (by walk_at "keep") m_row_form
theorem mono_row_form : sp_row_form.Mono := by walk_at "mono"

theorem f_rank_of {P : Program} {w : World} {K : Fg} {mg : Str → Option Value} {base : Heap} {f : Addr} {fd : FuncData} (g : Gs K mg) (h_row_form : Has P w K mg base "row_form" ["book"] 9 sp_row_form) (F : Fun K "rank_of" "rank_of" s_rank_of f fd) : FnOk P w K mg base CX0 10 f fd ["book"] (SpOf K sp_rank_of) :=
  fn_ok F sc_rank_of [] (fun cdv A outer s H E hr => q_rank_of g h_row_form cdv A outer s H E hr) (by walk_at "len") (by walk_at "keep") m_rank_of
theorem mono_rank_of : sp_rank_of.Mono := by walk_at "mono"

end K82
set_option Elab.async false
set_option linter.all false
set_option maxRecDepth 100000
set_option maxHeartbeats 4000000
set_option exponentiation.threshold 20000
set_option pp.deepTerms false
set_option pp.maxSteps 500
namespace K82
open PySem PySem.Spec PyProof.Rows L2 Pf
local macro_rules | `(tactic| walk_at "go") => `(tactic| (conv => whnf) <;> repeat ((first | refine atE rfl ?_ | refine andR ?_ ?_); (conv => whnf)))
local macro_rules | `(tactic| walk_at "wh") => `(tactic| conv => whnf)
local macro_rules | `(tactic| walk_at "len") => `(tactic| (intro os Q h; (repeat (obtain ⟨_, h⟩ := h)); subst_vars; rfl))
local macro_rules | `(tactic| walk_at "keep") => `(tactic| (intro os Q h; (repeat (obtain ⟨_, h⟩ := h)); subst_vars; simp [keepOk]))
local macro_rules | `(tactic| walk_at "mono") => `(tactic| (intro os k k' f; repeat (first | exact f _ _ | refine Exists.imp fun _ => ?_ | refine And.imp_right ?_ | refine forall_imp fun _ => ?_)))
/-! what follows from a book -/
def addedP (parts : List Int) (w : List Rat) : Rat := (List.zip parts w).foldl (fun t p => t + (p.1 : Rat) * p.2) 0
structure AddOk (k : Nat) (parts : List Int) (w : List Rat) : Prop where
  few : parts.length ≤ 400
  kk : k + k < 9000
  pre : ∀ j, Fit k (((List.zip parts w).take j).foldl (fun t p => t + (p.1 : Rat) * p.2) 0)
  prod : ∀ p ∈ List.zip parts w, Fit k ((p.1 : Rat) * p.2)
  parts : ∀ p ∈ parts, p.natAbs < 2 ^ 9000
  worths : ∀ x ∈ w, Fit k x
def breakB (n : Nat) (rows : List Sm) (s : Sm) : Bool := decide (addedP s.1 (worldP (red n rows).1 (red n rows).2 n) ≠ s.2) || (movesP (red n rows).1 (red n rows).2 n).any fun v => decide (addedP s.1 v ≠ 0)
def partB (n : Nat) (one other : List Sm) : Bool := other.any (breakB n one)
structure BreakOk (n k : Nat) (rows : List Sm) (s : Sm) : Prop where
  addw : AddOk k s.1 (worldP (red n rows).1 (red n rows).2 n)
  addm : ∀ v ∈ movesP (red n rows).1 (red n rows).2 n, AddOk k s.1 v
def sp_added_of : FSp := fun os Q => ∃ (parts : List Int) (w : List Rat) (k : Nat) (W : D), os = [.d (.tuple (zD parts)), .d W] ∧ (W = tupQs w ∨ W = rowD w) ∧ AddOk k parts w ∧ Q (.d (qD (addedP parts w))) os
def sp_keeps : FSp := fun os Q => ∃ (s : Sm) (w : List Rat) (k : Nat), os = [.d (sumD s), .d (tupQs w)] ∧ AddOk k s.1 w ∧ Q (.d (.bool (decide (addedP s.1 w = s.2)))) os
def sp_breaking_world : FSp := fun os Q => ∃ (rows : List Sm) (ns : List Str) (s : Sm) (k : Nat), os = [.d (bookD ns rows), .d (sumD s)] ∧ BookOk ns.length k rows ∧ voidB ns.length rows = false ∧ BreakOk ns.length k rows s ∧ (breakB ns.length rows s = false → Q (.d .none) os) ∧ (breakB ns.length rows s = true → ∀ w, Q (.d (tupQs w)) os)
theorem mono_breaking_world : sp_breaking_world.Mono := fun os k k' f ⟨a, b, c, d, e, a1, a2, a3, a4, a5⟩ => ⟨a, b, c, d, e, a1, a2, a3, fun h => f _ _ (a4 h), fun h w => f _ _ (a5 h w)⟩
def sp_world_of_one : FSp := fun os Q => ∃ (one other : List Sm) (ns ns2 : List Str) (k : Nat), os = [.d (bookD ns one), .d (bookD ns2 other)] ∧ BookOk ns.length k one ∧ voidB ns.length one = false ∧ (∀ s ∈ other, BreakOk ns.length k one s) ∧ other.length ≤ 400 ∧ (partB ns.length one other = false → Q (.d .none) os) ∧ (partB ns.length one other = true → ∀ w, Q (.d (tupQs w)) os)
theorem mono_world_of_one : sp_world_of_one.Mono := fun os k k' f ⟨a, b, c, c2, d, e, a1, a2, a3, a6, a4, a5⟩ => ⟨a, b, c, c2, d, e, a1, a2, a3, a6, fun h => f _ _ (a4 h), fun h w => f _ _ (a5 h w)⟩
structure AlikeOk (n k : Nat) (one other : List Sm) : Prop where
  b1 : BookOk n k one
  v1 : voidB n one = false
  b2 : BookOk n k other
  v2 : voidB n other = false
  r1 : ∀ s ∈ other, BreakOk n k one s
  r2 : ∀ s ∈ one, BreakOk n k other s
def alikeB (n : Nat) (one other : List Sm) : Bool := !(partB n one other || partB n other one)
def sp_parting_world : FSp := fun os Q => ∃ (one other : List Sm) (ns : List Str) (k : Nat), os = [.d (bookD ns one), .d (bookD ns other)] ∧ SeqAt.shaped (.tuple (ns.map PyData.str)) = true ∧ AlikeOk ns.length k one other ∧ (alikeB ns.length one other = true → Q (.d .none) os) ∧ (alikeB ns.length one other = false → ∀ xs, Q (.d (.tuple xs)) os)
theorem mono_parting_world : sp_parting_world.Mono := fun os k k' f ⟨a, b, c, d, e, shp, a1, a4, a5⟩ => ⟨a, b, c, d, e, shp, a1, fun h => f _ _ (a4 h), fun h w => f _ _ (a5 h w)⟩
def sp_alike_books : FSp := fun os Q => ∃ (one other : List Sm) (ns : List Str) (k : Nat), os = [.d (bookD ns one), .d (bookD ns other)] ∧ SeqAt.shaped (.tuple (ns.map PyData.str)) = true ∧ AlikeOk ns.length k one other ∧ Q (.d (.bool (alikeB ns.length one other))) os
/-! ### added_of -/
abbrev s_added_of : Stmt := topS 39
abbrev n_added_of : List Str := ["parts", "worths", "total", "part", "worth"]
theorem sc_added_of : FnScope n_added_of ["parts", "worths"] (defScope s_added_of) := ⟨rfl, rfl, rfl, by decide +kernel, rfl, by decide +kernel, by decide +kernel⟩
def r_added_of : RS := (rSeq (rSet 2 (rO (rC d_ZERO)))
  (rSeq (rForT (rZip (rVar 0) (rVar 1)) 2 (rGcons (rGn 3) (rGcons (rGn 4) rGnil)) (rIfS (rCmp (dEq true) (rN 3) (rP (rC (.int 0)))) (rSet 2 (rCall sp_plus_of (rACons (rN 2) (rACons (rP (rD (rCall sp_scaled_by (rACons (rN 3) (rACons (rN 4) rANil))))) rANil)))) rNext))
  (rRet (rO (rVar 2)))))
theorem q_added_of {P : Program} {w : World} {K : Fg} {mg : Str → Option Value} {base : Heap} {f : Addr} (g : Gs K mg) (h_plus_of : Has P w K mg base "plus_of" ["one", "other"] 2 sp_plus_of) (h_scaled_by : Has P w K mg base "scaled_by" ["number", "one"] 2 sp_scaled_by) (cdv : Value) (A : Around) (outer : List PySem.Env) (s : Shared) (H : Hp) (E : XK) (hr : Room 2 (A.deeper (envOfC "added_of" (defScope s_added_of) s.heap.objs.size f cdv))) :
    QSs (cxOf CX0 P w K mg base n_added_of "added_of" (defScope s_added_of) f cdv A outer s H E).nox [] (defBody s_added_of) r_added_of :=
  (qss_cons (qs_set 2 sc_added_of.nd (QV.o (g.ZERO)))
  (qss_cons (qs_forT 2 PassesOwn.never rfl (qf_zip g.zip (qv_var 0) (qv_var 1)) (qgs_cons (qg_name 3 sc_added_of.nd) (qgs_cons (qg_name 4 sc_added_of.nd) qgs_nil)) (qss_one (qs_if (qt_ne hr.units (qp_var 3) (qv_int).p) (qss_one (qs_set 2 sc_added_of.nd (qe_call h_plus_of (hr.mono (by decide)) (qa_cons (qp_var 2) (qa_cons ((QE.v (qe_call h_scaled_by (hr.mono (by decide)) (qa_cons (qp_var 3) (qa_cons (qp_var 4) qa_nil))))).p qa_nil))))) qss_nil)))
  (qss_one (qs_ret (QV.o (qv_var 2))))))

/-! ### keeps -/
abbrev s_keeps : Stmt := topS 40
abbrev n_keeps : List Str := ["row", "worths"]
theorem sc_keeps : FnScope n_keeps ["row", "worths"] (defScope s_keeps) := ⟨rfl, rfl, rfl, by decide +kernel, rfl, by decide +kernel, by decide +kernel⟩
def r_keeps : RS := (rRet (rO (rTV (rCmp (dEq false) (rP (rD (rCall sp_added_of (rACons (rP (rD (rOp dIx (rN 0) (rP (rC (.int 0)))))) (rACons (rN 1) rANil))))) (rP (rD (rOp dIx (rN 0) (rP (rC (.int 1))))))))))
theorem q_keeps {P : Program} {w : World} {K : Fg} {mg : Str → Option Value} {base : Heap} {f : Addr} (g : Gs K mg) (h_added_of : Has P w K mg base "added_of" ["parts", "worths"] 3 sp_added_of) (cdv : Value) (A : Around) (outer : List PySem.Env) (s : Shared) (H : Hp) (E : XK) (hr : Room 3 (A.deeper (envOfC "keeps" (defScope s_keeps) s.heap.objs.size f cdv))) :
    QSs (cxOf CX0 P w K mg base n_keeps "keeps" (defScope s_keeps) f cdv A outer s H E).nox [] (defBody s_keeps) r_keeps :=
  (qss_one (qs_ret (QV.o (qv_eq hr.units ((QE.v (qe_call h_added_of (hr.mono (by decide)) (qa_cons ((qv_ix (qp_var 0) (qv_int).p)).p (qa_cons (qp_var 1) qa_nil))))).p ((qv_ix (qp_var 0) (qv_int).p)).p))))

/-! ### breaking_world -/
abbrev s_breaking_world : Stmt := topS 42
abbrev n_breaking_world : List Str := ["book", "row", "world", "moves", "move"]
theorem sc_breaking_world : FnScope n_breaking_world ["book", "row"] (defScope s_breaking_world) := ⟨rfl, rfl, rfl, by decide +kernel, rfl, by decide +kernel, by decide +kernel⟩
def r_breaking_world : RS := (rSeq (rAsgT (rD (rCall sp_whole_plane (rACons (rN 0) rANil))) (rGt 2 (rGcons (rGn 2) (rGcons (rGn 3) rGnil))))
  (rSeq (rIfS (rNot (rTb (rD (rCall sp_keeps (rACons (rN 1) (rACons (rN 2) rANil)))))) (rRet (rO (rVar 2))) rNext)
  (rSeq (rFor (rFs (rVar 3)) (rGn 4) (rIfS (rCmp (dEq true) (rP (rD (rCall sp_added_of (rACons (rP (rD (rOp dIx (rN 1) (rP (rC (.int 0)))))) (rACons (rN 4) rANil))))) (rP (rC d_ZERO))) (rRet (rCall sp_moved_far (rACons (rN 2) (rACons (rN 4) rANil)))) rNext))
  (rRet (rO (rC .none))))))
theorem q_breaking_world {P : Program} {w : World} {K : Fg} {mg : Str → Option Value} {base : Heap} {f : Addr} (g : Gs K mg) (h_whole_plane : Has P w K mg base "whole_plane" ["book"] 6 sp_whole_plane) (h_moved_far : Has P w K mg base "moved_far" ["world", "move"] 3 sp_moved_far) (h_added_of : Has P w K mg base "added_of" ["parts", "worths"] 3 sp_added_of) (h_keeps : Has P w K mg base "keeps" ["row", "worths"] 4 sp_keeps) (cdv : Value) (A : Around) (outer : List PySem.Env) (s : Shared) (H : Hp) (E : XK) (hr : Room 6 (A.deeper (envOfC "breaking_world" (defScope s_breaking_world) s.heap.objs.size f cdv))) :
    QSs (cxOf CX0 P w K mg base n_breaking_world "breaking_world" (defScope s_breaking_world) f cdv A outer s H E).nox [] (defBody s_breaking_world) r_breaking_world :=
  (qss_cons (qs_asgT (QE.v (qe_call h_whole_plane (hr.mono (by decide)) (qa_cons (qp_var 0) qa_nil))) (qg_tup 2 rfl (qgs_cons (qg_name 2 sc_breaking_world.nd) (qgs_cons (qg_name 3 sc_breaking_world.nd) qgs_nil))))
  (qss_cons (qs_if (qt_not (qt_call (QE.v (qe_call h_keeps (hr.mono (by decide)) (qa_cons (qp_var 1) (qa_cons (qp_var 2) qa_nil)))))) (qss_one (qs_ret (QV.o (qv_var 2)))) qss_nil)
  (qss_cons (qs_for PassesOwn.never rfl (qf_seq (qv_var 3)) (qg_name 4 sc_breaking_world.nd) (qss_one (qs_if (qt_ne hr.units ((QE.v (qe_call h_added_of (hr.mono (by decide)) (qa_cons ((qv_ix (qp_var 1) (qv_int).p)).p (qa_cons (qp_var 4) qa_nil))))).p ((g.ZERO)).p) (qss_one (qs_ret (qe_call h_moved_far (hr.mono (by decide)) (qa_cons (qp_var 2) (qa_cons (qp_var 4) qa_nil))))) qss_nil)))
  (qss_one (qs_ret (QV.o qv_non))))))

/-! ### world_of_one -/
abbrev s_world_of_one : Stmt := topS 44
abbrev n_world_of_one : List Str := ["one", "other", "row", "world"]
theorem sc_world_of_one : FnScope n_world_of_one ["one", "other"] (defScope s_world_of_one) := ⟨rfl, rfl, rfl, by decide +kernel, rfl, by decide +kernel, by decide +kernel⟩
def r_world_of_one : RS := (rSeq (rIfS (rCmp (dIsN false) (rP (rD (rCall sp_a_world (rACons (rN 0) rANil)))) (rP (rC .none))) (rRet (rO (rC .none))) rNext)
  (rSeq (rFor (rFs (rD (rOp dIx (rN 1) (rP (rC (.int 1)))))) (rGn 2) (rSeq (rSet 3 (rCall sp_breaking_world (rACons (rN 0) (rACons (rN 2) rANil))))
  (rIfS (rCmp (dIsN true) (rN 3) (rP (rC .none))) (rRet (rO (rVar 3))) rNext)))
  (rRet (rO (rC .none)))))
theorem q_world_of_one {P : Program} {w : World} {K : Fg} {mg : Str → Option Value} {base : Heap} {f : Addr} (g : Gs K mg) (h_a_world : Has P w K mg base "a_world" ["book"] 7 sp_a_world) (h_breaking_world : Has P w K mg base "breaking_world" ["book", "row"] 7 sp_breaking_world) (cdv : Value) (A : Around) (outer : List PySem.Env) (s : Shared) (H : Hp) (E : XK) (hr : Room 7 (A.deeper (envOfC "world_of_one" (defScope s_world_of_one) s.heap.objs.size f cdv))) :
    QSs (cxOf CX0 P w K mg base n_world_of_one "world_of_one" (defScope s_world_of_one) f cdv A outer s H E).nox [] (defBody s_world_of_one) r_world_of_one :=
  (qss_cons (qs_if (qt_isN ((QE.v (qe_call h_a_world (hr.mono (by decide)) (qa_cons (qp_var 0) qa_nil)))).p (qv_non).p) (qss_one (qs_ret (QV.o qv_non))) qss_nil)
  (qss_cons (qs_for PassesOwn.never rfl (qf_seq (qv_ix (qp_var 1) (qv_int).p)) (qg_name 2 sc_world_of_one.nd) (qss_cons (qs_set 3 sc_world_of_one.nd (qe_call h_breaking_world (hr.mono (by decide)) (qa_cons (qp_var 0) (qa_cons (qp_var 2) qa_nil))))
  (qss_one (qs_if (qt_notN (qp_var 3) (qv_non).p) (qss_one (qs_ret (QV.o (qv_var 3)))) qss_nil))))
  (qss_one (qs_ret (QV.o qv_non)))))

/-! ### parting_world -/
abbrev s_parting_world : Stmt := topS 45
abbrev n_parting_world : List Str := ["one", "other", "world"]
theorem sc_parting_world : FnScope n_parting_world ["one", "other"] (defScope s_parting_world) := ⟨rfl, rfl, rfl, by decide +kernel, rfl, by decide +kernel, by decide +kernel⟩
def r_parting_world : RS := (rSeq (rIfS (rCmp (dEq true) (rP (rD (rOp dIx (rN 0) (rP (rC (.int 0)))))) (rP (rD (rOp dIx (rN 1) (rP (rC (.int 0))))))) rNever rNext)
  (rSeq (rSet 2 (rCall sp_world_of_one (rACons (rN 0) (rACons (rN 1) rANil))))
  (rSeq (rIfS (rCmp (dIsN true) (rN 2) (rP (rC .none))) (rRet (rO (rTup (rCons (rC (.str "one")) (rCons (rVar 2) rNil))))) rNext)
  (rSeq (rSet 2 (rCall sp_world_of_one (rACons (rN 1) (rACons (rN 0) rANil))))
  (rSeq (rIfS (rCmp (dIsN true) (rN 2) (rP (rC .none))) (rRet (rO (rTup (rCons (rC (.str "other")) (rCons (rVar 2) rNil))))) rNext)
  (rRet (rO (rC .none))))))))
theorem q_parting_world {P : Program} {w : World} {K : Fg} {mg : Str → Option Value} {base : Heap} {f : Addr} (g : Gs K mg) (h_world_of_one : Has P w K mg base "world_of_one" ["one", "other"] 8 sp_world_of_one) (cdv : Value) (A : Around) (outer : List PySem.Env) (s : Shared) (H : Hp) (E : XK) (hr : Room 8 (A.deeper (envOfC "parting_world" (defScope s_parting_world) s.heap.objs.size f cdv))) :
    QSs (cxOf CX0 P w K mg base n_parting_world "parting_world" (defScope s_parting_world) f cdv A outer s H E).nox [] (defBody s_parting_world) r_parting_world :=
  (qss_cons (qs_if (qt_ne hr.units ((qv_ix (qp_var 0) (qv_int).p)).p ((qv_ix (qp_var 1) (qv_int).p)).p) (qss_one qs_never) qss_nil)
  (qss_cons (qs_set 2 sc_parting_world.nd (qe_call h_world_of_one (hr.mono (by decide)) (qa_cons (qp_var 0) (qa_cons (qp_var 1) qa_nil))))
  (qss_cons (qs_if (qt_notN (qp_var 2) (qv_non).p) (qss_one (qs_ret (QV.o (qv_tup (ql_cons qv_str (ql_cons (qv_var 2) ql_nil)))))) qss_nil)
  (qss_cons (qs_set 2 sc_parting_world.nd (qe_call h_world_of_one (hr.mono (by decide)) (qa_cons (qp_var 1) (qa_cons (qp_var 0) qa_nil))))
  (qss_cons (qs_if (qt_notN (qp_var 2) (qv_non).p) (qss_one (qs_ret (QV.o (qv_tup (ql_cons qv_str (ql_cons (qv_var 2) ql_nil)))))) qss_nil)
  (qss_one (qs_ret (QV.o qv_non))))))))

/-! ### alike_books -/
abbrev s_alike_books : Stmt := topS 46
abbrev n_alike_books : List Str := ["one", "other"]
theorem sc_alike_books : FnScope n_alike_books ["one", "other"] (defScope s_alike_books) := ⟨rfl, rfl, rfl, by decide +kernel, rfl, by decide +kernel, by decide +kernel⟩
def r_alike_books : RS := (rRet (rO (rTV (rCmp (dIsN false) (rP (rD (rCall sp_parting_world (rACons (rN 0) (rACons (rN 1) rANil))))) (rP (rC .none))))))
theorem q_alike_books {P : Program} {w : World} {K : Fg} {mg : Str → Option Value} {base : Heap} {f : Addr} (g : Gs K mg) (h_parting_world : Has P w K mg base "parting_world" ["one", "other"] 9 sp_parting_world) (cdv : Value) (A : Around) (outer : List PySem.Env) (s : Shared) (H : Hp) (E : XK) (hr : Room 9 (A.deeper (envOfC "alike_books" (defScope s_alike_books) s.heap.objs.size f cdv))) :
    QSs (cxOf CX0 P w K mg base n_alike_books "alike_books" (defScope s_alike_books) f cdv A outer s H E).nox [] (defBody s_alike_books) r_alike_books :=
  (qss_one (qs_ret (QV.o (qv_isN ((QE.v (qe_call h_parting_world (hr.mono (by decide)) (qa_cons (qp_var 0) (qa_cons (qp_var 1) qa_nil))))).p (qv_non).p))))

theorem m_added_of (os : List O) (Q : O → List O → Prop) (h : sp_added_of os Q) : Ends r_added_of n_added_of os Q := by
  obtain ⟨parts, w, k, W, rfl, hW, ok, q⟩ := h
  have kk := ok.kk
  have body : ∀ W : D, Q (.d (qD (addedP parts w))) [.d (.tuple (zD parts)), .d W] →
      ∃ I : Nat → Pf.Env → Prop, I 0 [some (.d (.tuple (zD parts))), some (.d W), some (.d d_ZERO), none, none] ∧
      (∀ i xs e, (zipD (zD parts) (w.map qD))[i]? = some xs → I i e → xs.length = 2 ∧ (rGcons (rGn 3) (rGcons (rGn 4) rGnil)) xs e fun e2 => rIfS (rCmp (dEq true) (rN 3) (rP (rC (.int 0)))) (rSet 2 (rCall sp_plus_of (rACons (rN 2) (rACons (rP (rD (rCall sp_scaled_by (rACons (rN 3) (rACons (rN 4) rANil))))) rANil)))) rNext { nx := I (i + 1), rt := fun o e => finL e [.d (.tuple (zD parts)), .d W] (Q o), bk := fun e => rRet (rO (rVar 2)) { nx := fun e => finL e [.d (.tuple (zD parts)), .d W] (Q (.d .none)), rt := fun o e => finL e [.d (.tuple (zD parts)), .d W] (Q o), bk := fun _ => False, ct := fun _ => False } e, ct := I (i + 1) } e2) ∧
      ∀ e, I (zipD (zD parts) (w.map qD)).length e → rRet (rO (rVar 2)) { nx := fun e => finL e [.d (.tuple (zD parts)), .d W] (Q (.d .none)), rt := fun o e => finL e [.d (.tuple (zD parts)), .d W] (Q o), bk := fun _ => False, ct := fun _ => False } e := by
    intro W q
    refine ⟨fun j e => ∃ o3 o4, e = [some (.d (.tuple (zD parts))), some (.d W), some (.d (qD (((List.zip parts w).take j).foldl (fun t p => t + (p.1 : Rat) * p.2) 0))), o3, o4], ⟨none, none, rfl⟩, ?_, ?_⟩
    · rintro j xs e hx ⟨o3, o4, rfl⟩
      obtain ⟨a, b, ha, hb, rfl⟩ := zipD_at (f := PyData.int) hx
      refine ⟨rfl, ?_⟩
      have stp := zip_take_succ (fun (t : Rat) (p : Int × Rat) => t + (p.1 : Rat) * p.2) 0 _ _ _ _ _ ha hb
      dsimp only at stp
      walk_at "go"
      refine decI (fun h => ?_) (fun h => ?_)
      · walk_at "wh"
        have am := List.mem_of_getElem? ha
        refine ⟨a, b, k, rfl, ok.worths b (List.mem_of_getElem? hb), ok.parts a am, by omega, ?_⟩
        walk_at "wh"
        refine ⟨_, (a : Rat) * b, k, k, rfl, ok.pre j, ok.prod (a, b) (List.mem_of_getElem? (i := j) (by rw [List.getElem?_zip_eq_some]; exact ⟨ha, hb⟩)), by omega, ?_⟩
        walk_at "wh"
        rw [stp]
        exact ⟨_, _, rfl⟩
      · have h : ¬ (!decide (a = 0)) = true := h
        have h0 : a = 0 := by simpa using h
        subst h0
        walk_at "wh"
        rw [stp, show ((0 : Int) : Rat) * b = 0 by grind, Rat.add_zero]
        exact ⟨_, _, rfl⟩
    · rintro e ⟨o3, o4, rfl⟩
      have el : (List.zip parts w).take (zipD (zD parts) (w.map qD)).length = List.zip parts w := by
        refine List.take_of_length_le ?_
        show (List.zip parts w).length ≤ (zipD (parts.map PyData.int) (w.map qD)).length
        rw [zipD_len, List.length_zip]
        exact Nat.le_refl _
      rw [el]
      walk_at "go"
      exact q
  rcases hW with rfl | rfl
  · walk_at "wh"
    exact body _ q
  · walk_at "wh"
    exact body _ q
theorem m_keeps (os : List O) (Q : O → List O → Prop) (h : sp_keeps os Q) : Ends r_keeps n_keeps os Q := by
  obtain ⟨s, w, k, rfl, ok, q⟩ := h
  walk_at "go"
  refine ⟨s.1, w, k, _, rfl, .inl rfl, ok, ?_⟩
  walk_at "go"
  · rw [← eqv_qD] at q
    exact q
  · rfl
  · rfl
theorem m_breaking_world (os : List O) (Q : O → List O → Prop) (h : sp_breaking_world os Q) : Ends r_breaking_world n_breaking_world os Q := by
  obtain ⟨rows, ns, s, k, rfl, ok, hv, br, q1, q2⟩ := h
  have rfit := red_fit ok
  unfold breakB at q1 q2
  obtain ⟨aw, am⟩ := br
  walk_at "wh"
  refine ⟨rows, ns, k, rfl, ok, ?_⟩
  have ep : planeD ns.length rows = .tuple [tupQs (worldP (red ns.length rows).1 (red ns.length rows).2 ns.length), .list ((movesP (red ns.length rows).1 (red ns.length rows).2 ns.length).map rowD)] := by
    unfold planeD
    rw [if_neg (by rw [hv]; decide)]
  rw [ep]
  have lw := worldP_len (red ns.length rows).1 (red ns.length rows).2 ns.length
  have lmv : ∀ v ∈ movesP (red ns.length rows).1 (red ns.length rows).2 ns.length, v.length = ns.length := fun v hv => by
    obtain ⟨c, _, rfl⟩ := List.mem_map.mp hv
    exact moveP_len _ _ _ _
  generalize worldP (red ns.length rows).1 (red ns.length rows).2 ns.length = wd at *
  generalize movesP (red ns.length rows).1 (red ns.length rows).2 ns.length = mv at *
  have kk := aw.kk
  walk_at "go"
  · refine ⟨s, wd, k, rfl, aw, ?_⟩
    walk_at "go"
    refine decI (fun h => ?_) (fun h => ?_)
    · have h : (!decide (addedP s.1 wd = s.2)) = true := h
      walk_at "wh"
      refine q2 ?_ wd
      have : addedP s.1 wd ≠ s.2 := by simpa using h
      simp [this]
    · have h : ¬ (!decide (addedP s.1 wd = s.2)) = true := h
      have hw : addedP s.1 wd = s.2 := by simpa using h
      walk_at "go"
      refine ⟨fun j e => (∃ o4, e = [some (.d (bookD ns rows)), some (.d (sumD s)), some (.d (tupQs wd)), some (.d (.list (mv.map rowD))), o4]) ∧ ∀ v ∈ mv.take j, addedP s.1 v = 0, ⟨⟨none, rfl⟩, by simp⟩, ?_, ?_⟩
      · rintro j x e hx ⟨⟨o4, rfl⟩, hz⟩
        obtain ⟨v, hv2, rfl⟩ := get_map hx
        have hvm := List.mem_of_getElem? hv2
        have av := am v hvm
        walk_at "go"
        refine ⟨s.1, v, k, _, rfl, .inr rfl, av, ?_⟩
        walk_at "go"
        · refine decI (fun h => ?_) (fun h => ?_)
          · have h : (!PyData.eqv (qD (addedP s.1 v)) d_ZERO) = true := h
            have hne : addedP s.1 v ≠ 0 := by simpa [ne_zero] using h
            walk_at "wh"
            refine ⟨wd, v, k, k, rfl, by rw [lw, lmv v hvm], by rw [lw]; exact ok.n4, aw.worths, av.worths, by omega, ?_⟩
            refine q2 ?_ _
            rw [Bool.or_eq_true]
            exact .inr (List.any_eq_true.mpr ⟨v, hvm, by simpa using hne⟩)
          · have h : ¬ (!PyData.eqv (qD (addedP s.1 v)) d_ZERO) = true := h
            have heq : addedP s.1 v = 0 := by simpa [ne_zero] using h
            walk_at "wh"
            refine ⟨⟨_, rfl⟩, fun u hu => ?_⟩
            rw [List.take_add_one, hv2] at hu
            rcases List.mem_append.mp hu with hu | hu
            · exact hz u hu
            · have : u = v := by simpa using hu
              rw [this]
              exact heq
        · rfl
        · rfl
      · rintro e ⟨⟨o4, rfl⟩, hz⟩
        rw [List.length_map, List.take_length] at hz
        walk_at "wh"
        refine q1 ?_
        rw [hw]
        simp only [ne_eq, not_true_eq_false, decide_false, Bool.false_or]
        rw [List.any_eq_false]
        intro v hv2
        simp [hz v hv2]
  · rfl
theorem m_world_of_one (os : List O) (Q : O → List O → Prop) (h : sp_world_of_one os Q) : Ends r_world_of_one n_world_of_one os Q := by
  obtain ⟨one, other, ns, ns2, k, rfl, ok, hv, br, hl, q1, q2⟩ := h
  unfold partB at q1 q2
  walk_at "wh"
  refine ⟨one, ns, k, rfl, ok, ?_⟩
  have ea : aWorldD ns.length one = tupQs (worldP (red ns.length one).1 (red ns.length one).2 ns.length) := by
    unfold aWorldD
    rw [if_neg (by rw [hv]; decide)]
  rw [ea]
  walk_at "go"
  refine ⟨fun j e => (∃ o2 o3, e = [some (.d (bookD ns one)), some (.d (bookD ns2 other)), o2, o3]) ∧ ∀ s ∈ other.take j, breakB ns.length one s = false, ⟨⟨none, none, rfl⟩, by simp⟩, ?_, ?_⟩
  · rintro j x e hx ⟨⟨o2, o3, rfl⟩, hz⟩
    obtain ⟨s, hs, rfl⟩ := get_map hx
    have hsm := List.mem_of_getElem? hs
    walk_at "wh"
    refine ⟨one, ns, s, k, rfl, ok, hv, br s hsm, fun hb => ?_, fun hb w => ?_⟩
    · walk_at "wh"
      refine ⟨⟨_, _, rfl⟩, fun u hu => ?_⟩
      rw [List.take_add_one, hs] at hu
      rcases List.mem_append.mp hu with hu | hu
      · exact hz u hu
      · have : u = s := by simpa using hu
        rw [this]
        exact hb
    · walk_at "wh"
      exact q2 (List.any_eq_true.mpr ⟨s, hsm, hb⟩) w
  · rintro e ⟨⟨o2, o3, rfl⟩, hz⟩
    rw [List.length_map, List.take_length] at hz
    walk_at "wh"
    refine q1 ?_
    rw [List.any_eq_false]
    intro s hs
    rw [hz s hs]
    decide
theorem eqv_strs : ∀ ns : List Str, PyData.eqvAll (ns.map PyData.str) (ns.map PyData.str) = true
  | [] => by simp [PyData.eqvAll]
  | n :: ns => by
    rw [List.map_cons, PyData.eqvAll, eqv_strs ns, PyData.eqv]
    simp
theorem m_parting_world (os : List O) (Q : O → List O → Prop) (h : sp_parting_world os Q) : Ends r_parting_world n_parting_world os Q := by
  obtain ⟨one, other, ns, k, rfl, shp, ok, q1, q2⟩ := h
  have hn : PyData.eqv (.tuple (ns.map PyData.str)) (.tuple (ns.map PyData.str)) = true := by rw [PyData.eqv, eqv_strs]
  unfold alikeB at q1 q2
  walk_at "go"
  · refine decI (fun h => ?_) (fun h => ?_)
    · have h : (!PyData.eqv (.tuple (ns.map PyData.str)) (.tuple (ns.map PyData.str))) = true := h
      rw [hn] at h
      cases h
    · walk_at "wh"
      refine ⟨one, other, ns, ns, k, rfl, ok.b1, ok.v1, ok.r1, ok.b2.few, fun h1 => ?_, fun h1 w => ?_⟩
      · walk_at "wh"
        refine ⟨other, one, ns, ns, k, rfl, ok.b2, ok.v2, ok.r2, ok.b1.few, fun h2 => ?_, fun h2 w => ?_⟩
        · walk_at "wh"
          exact q1 (by rw [h1, h2]; rfl)
        · walk_at "go"
          · exact q2 (by rw [h1, h2]; rfl) _
          · exact (by decide : 2 ≤ sizeLine)
      · walk_at "go"
        · exact q2 (by rw [h1]; rfl) _
        · exact (by decide : 2 ≤ sizeLine)
  · exact shp
  · exact shp
theorem m_alike_books (os : List O) (Q : O → List O → Prop) (h : sp_alike_books os Q) : Ends r_alike_books n_alike_books os Q := by
  obtain ⟨one, other, ns, k, rfl, shp, ok, q⟩ := h
  walk_at "wh"
  refine ⟨one, other, ns, k, rfl, shp, ok, fun h => ?_, fun h xs => ?_⟩
  · rw [h] at q
    walk_at "wh"
    exact q
  · rw [h] at q
    walk_at "wh"
    exact q
theorem f_added_of {P : Program} {w : World} {K : Fg} {mg : Str → Option Value} {base : Heap} {f : Addr} {fd : FuncData} (g : Gs K mg) (h_plus_of : Has P w K mg base "plus_of" ["one", "other"] 2 sp_plus_of) (h_scaled_by : Has P w K mg base "scaled_by" ["number", "one"] 2 sp_scaled_by) (F : Fun K "added_of" "added_of" s_added_of f fd) : FnOk P w K mg base CX0 3 f fd ["parts", "worths"] (SpOf K sp_added_of) :=
  fn_ok F sc_added_of [] (fun cdv A outer s H E hr => q_added_of g h_plus_of h_scaled_by cdv A outer s H E hr) (by walk_at "len") (by walk_at "keep") m_added_of
theorem mono_added_of : sp_added_of.Mono := by walk_at "mono"

theorem f_keeps {P : Program} {w : World} {K : Fg} {mg : Str → Option Value} {base : Heap} {f : Addr} {fd : FuncData} (g : Gs K mg) (h_added_of : Has P w K mg base "added_of" ["parts", "worths"] 3 sp_added_of) (F : Fun K "keeps" "keeps" s_keeps f fd) : FnOk P w K mg base CX0 4 f fd ["row", "worths"] (SpOf K sp_keeps) :=
  fn_ok F sc_keeps [] (fun cdv A outer s H E hr => q_keeps g h_added_of cdv A outer s H E hr) (by walk_at "len") (by walk_at "keep") m_keeps
theorem mono_keeps : sp_keeps.Mono := by walk_at "mono"

theorem f_breaking_world {P : Program} {w : World} {K : Fg} {mg : Str → Option Value} {base : Heap} {f : Addr} {fd : FuncData} (g : Gs K mg) (h_whole_plane : Has P w K mg base "whole_plane" ["book"] 6 sp_whole_plane) (h_moved_far : Has P w K mg base "moved_far" ["world", "move"] 3 sp_moved_far) (h_added_of : Has P w K mg base "added_of" ["parts", "worths"] 3 sp_added_of) (h_keeps : Has P w K mg base "keeps" ["row", "worths"] 4 sp_keeps) (F : Fun K "breaking_world" "breaking_world" s_breaking_world f fd) : FnOk P w K mg base CX0 7 f fd ["book", "row"] (SpOf K sp_breaking_world) :=
  fn_ok F sc_breaking_world [] (fun cdv A outer s H E hr => q_breaking_world g h_whole_plane h_moved_far h_added_of h_keeps cdv A outer s H E hr) (by walk_at "len") (by walk_at "keep") m_breaking_world

theorem f_world_of_one {P : Program} {w : World} {K : Fg} {mg : Str → Option Value} {base : Heap} {f : Addr} {fd : FuncData} (g : Gs K mg) (h_a_world : Has P w K mg base "a_world" ["book"] 7 sp_a_world) (h_breaking_world : Has P w K mg base "breaking_world" ["book", "row"] 7 sp_breaking_world) (F : Fun K "world_of_one" "world_of_one" s_world_of_one f fd) : FnOk P w K mg base CX0 8 f fd ["one", "other"] (SpOf K sp_world_of_one) :=
  fn_ok F sc_world_of_one [] (fun cdv A outer s H E hr => q_world_of_one g h_a_world h_breaking_world cdv A outer s H E hr) (by walk_at "len") (by walk_at "keep") m_world_of_one

theorem f_parting_world {P : Program} {w : World} {K : Fg} {mg : Str → Option Value} {base : Heap} {f : Addr} {fd : FuncData} (g : Gs K mg) (h_world_of_one : Has P w K mg base "world_of_one" ["one", "other"] 8 sp_world_of_one) (F : Fun K "parting_world" "parting_world" s_parting_world f fd) : FnOk P w K mg base CX0 9 f fd ["one", "other"] (SpOf K sp_parting_world) :=
  fn_ok F sc_parting_world [] (fun cdv A outer s H E hr => q_parting_world g h_world_of_one cdv A outer s H E hr) (by walk_at "len") (by walk_at "keep") m_parting_world

theorem f_alike_books {P : Program} {w : World} {K : Fg} {mg : Str → Option Value} {base : Heap} {f : Addr} {fd : FuncData} (g : Gs K mg) (h_parting_world : Has P w K mg base "parting_world" ["one", "other"] 9 sp_parting_world) (F : Fun K "alike_books" "alike_books" s_alike_books f fd) : FnOk P w K mg base CX0 10 f fd ["one", "other"] (SpOf K sp_alike_books) :=
  fn_ok F sc_alike_books [] (fun cdv A outer s H E hr => q_alike_books g h_parting_world cdv A outer s H E hr) (by walk_at "len") (by walk_at "keep") m_alike_books
theorem mono_alike_books : sp_alike_books.Mono := by walk_at "mono"

end K82
set_option Elab.async false
set_option linter.all false
set_option maxRecDepth 100000
set_option maxHeartbeats 4000000
set_option exponentiation.threshold 20000
set_option pp.deepTerms false
set_option pp.maxSteps 500
namespace K82
open PySem PySem.Spec PyProof.Rows L2 Pf
local macro_rules | `(tactic| walk_at "go") => `(tactic| (conv => whnf) <;> repeat ((first | refine atE rfl ?_ | refine andR ?_ ?_); (conv => whnf)))
local macro_rules | `(tactic| walk_at "wh") => `(tactic| conv => whnf)
local macro_rules | `(tactic| walk_at "len") => `(tactic| (intro os Q h; (repeat (obtain ⟨_, h⟩ := h)); subst_vars; rfl))
local macro_rules | `(tactic| walk_at "keep") => `(tactic| (intro os Q h; (repeat (obtain ⟨_, h⟩ := h)); subst_vars; simp [keepOk]))
local macro_rules | `(tactic| walk_at "mono") => `(tactic| (intro os k k' f; repeat (first | exact f _ _ | refine Exists.imp fun _ => ?_ | refine And.imp_right ?_ | refine forall_imp fun _ => ?_)))
/-! edits of books -/
def strD (ns : List Str) : D := .tuple (ns.map PyData.str)
def sp_need_unlike : FSp := fun os Q => ∃ ns : List Str, os = [.d (strD ns)] ∧ ns.Nodup ∧ ns.length < 64 ∧ Q (.d .none) os
def sp_without_sum : FSp := fun os Q => ∃ (rows : List Sm) (ns : List Str) (at' : Nat), os = [.d (bookD ns rows), .d (.int (at' : Nat))] ∧ rows.length ≤ 400 ∧ Q (.d (bookD ns (rows.take at' ++ rows.drop (at' + 1)))) os
def sp_with_figure : FSp := fun os Q => ∃ (rows : List Sm) (ns : List Str) (x : Str), os = [.d (bookD ns rows), .d (.str x)] ∧ (ns ++ [x]).Nodup ∧ ns.length < 60 ∧ rows.length ≤ 400 ∧ (∀ s ∈ rows, s.1.length ≤ 400) ∧ Q (.d (bookD (ns ++ [x]) (rows.map fun s => (s.1 ++ [0], s.2)))) os
def renamed (ns : List Str) (a b : Str) : List Str := ns.map fun x => if x = a then b else x
def sp_renamed_book : FSp := fun os Q => ∃ (rows : List Sm) (ns : List Str) (a b : Str), os = [.d (bookD ns rows), .d (.tuple [.tuple [.str a, .str b]])] ∧ (renamed ns a b).Nodup ∧ ns.length < 60 ∧ Q (.d (bookD (renamed ns a b) rows)) os
/-- the places are all in their sequence: nothing moves -/
def sp_placed_parts : FSp := fun os Q => ∃ (parts : List Int) (n : Nat), os = [.d (.tuple (zD parts)), .d (.list (natD (List.range n))), .d (.int (n : Nat))] ∧ parts.length = n ∧ n ≤ 400 ∧ Q (.d (.tuple (zD parts))) os
/-- of two books over one list of names -/
def sp_joined_book : FSp := fun os Q => ∃ (one other : List Sm) (ns : List Str), os = [.d (bookD ns one), .d (bookD ns other)] ∧ ns.Nodup ∧ ns.length < 60 ∧ one.length ≤ 200 ∧ other.length ≤ 200 ∧ (∀ s ∈ one, s.1.length = ns.length) ∧ (∀ s ∈ other, s.1.length = ns.length) ∧ Q (.d (bookD ns (one ++ other))) os
/-! ### need_unlike -/
abbrev s_need_unlike : Stmt := topS 48
abbrev n_need_unlike : List Str := ["names"]
theorem sc_need_unlike : FnScope n_need_unlike ["names"] (defScope s_need_unlike) := ⟨rfl, rfl, rfl, by decide +kernel, rfl, by decide +kernel, by decide +kernel⟩
def r_need_unlike : RS := (rIfS (rCmp bLt (rP (rLenSet (rVar 0))) (rP (rD (rCB fLen (rACons (rN 0) rANil))))) rNever rNext)
theorem q_need_unlike {P : Program} {w : World} {K : Fg} {mg : Str → Option Value} {base : Heap} {f : Addr} (g : Gs K mg) (cdv : Value) (A : Around) (outer : List PySem.Env) (s : Shared) (H : Hp) (E : XK) (hr : Room 0 (A.deeper (envOfC "need_unlike" (defScope s_need_unlike) s.heap.objs.size f cdv))) :
    QSs (cxOf CX0 P w K mg base n_need_unlike "need_unlike" (defScope s_need_unlike) f cdv A outer s H E).nox [] (defBody s_need_unlike) r_need_unlike :=
  (qss_one (qs_if (qt_lt ((qv_lenset rfl g.len g.set (qv_var 0))).p ((QE.v (qe_len g.len (qa_cons (qp_var 0) qa_nil)))).p) (qss_one qs_never) qss_nil))

/-! ### without_sum -/
abbrev s_without_sum : Stmt := topS 49
abbrev n_without_sum : List Str := ["book", "number"]
theorem sc_without_sum : FnScope n_without_sum ["book", "number"] (defScope s_without_sum) := ⟨rfl, rfl, rfl, by decide +kernel, rfl, by decide +kernel, by decide +kernel⟩
def r_without_sum : RS := (rRet (rO (rTup (rCons (rD (rOp dIx (rN 0) (rP (rC (.int 0))))) (rCons (rD (rOp dAdd (rP (rD (rSl (rP (rD (rOp dIx (rN 0) (rP (rC (.int 1)))))) rNoI (rSoI (rVar 1))))) (rP (rD (rSl (rP (rD (rOp dIx (rN 0) (rP (rC (.int 1)))))) (rSoI (rD (rOp dAdd (rN 1) (rP (rC (.int 1)))))) rNoI))))) rNil)))))
theorem q_without_sum {P : Program} {w : World} {K : Fg} {mg : Str → Option Value} {base : Heap} {f : Addr} (g : Gs K mg) (cdv : Value) (A : Around) (outer : List PySem.Env) (s : Shared) (H : Hp) (E : XK) (hr : Room 0 (A.deeper (envOfC "without_sum" (defScope s_without_sum) s.heap.objs.size f cdv))) :
    QSs (cxOf CX0 P w K mg base n_without_sum "without_sum" (defScope s_without_sum) f cdv A outer s H E).nox [] (defBody s_without_sum) r_without_sum :=
  (qss_one (qs_ret (QV.o (qv_tup (ql_cons (qv_ix (qp_var 0) (qv_int).p) (ql_cons (QE.v (qe_add ((QE.v (qe_slice ((qv_ix (qp_var 0) (qv_int).p)).p qi_none (qi_some (qv_var 1))))).p ((QE.v (qe_slice ((qv_ix (qp_var 0) (qv_int).p)).p (qi_some (QE.v (qe_add (qp_var 1) (qv_int).p))) qi_none))).p)) ql_nil))))))

/-! ### with_figure -/
abbrev s_with_figure : Stmt := topS 50
abbrev n_with_figure : List Str := ["book", "name", "names", "parts", "due"]
theorem sc_with_figure : FnScope n_with_figure ["book", "name"] (defScope s_with_figure) := ⟨rfl, rfl, rfl, by decide +kernel, rfl, by decide +kernel, by decide +kernel⟩
def r_with_figure : RS := (rSeq (rSet 2 (rOp dAdd (rP (rD (rOp dIx (rN 0) (rP (rC (.int 0)))))) (rP (rTup (rCons (rVar 1) rNil)))))
  (rSeq (rDrop (rCall sp_need_unlike (rACons (rN 2) rANil)))
  (rRet (rO (rTup (rCons (rVar 2) (rCons (rD (rCB fTuple (rACons (rP (rD (rLc (rFs (rD (rOp dIx (rN 0) (rP (rC (.int 1)))))) (rGt 2 (rGcons (rGn 3) (rGcons (rGn 4) rGnil))) rYes (rTup (rCons (rD (rOp dAdd (rN 3) (rP (rTup (rCons (rC (.int 0)) rNil))))) (rCons (rVar 4) rNil))) [3, 4]))) rANil))) rNil)))))))
theorem q_with_figure {P : Program} {w : World} {K : Fg} {mg : Str → Option Value} {base : Heap} {f : Addr} (g : Gs K mg) (h_need_unlike : Has P w K mg base "need_unlike" ["names"] 1 sp_need_unlike) (cdv : Value) (A : Around) (outer : List PySem.Env) (s : Shared) (H : Hp) (E : XK) (hr : Room 1 (A.deeper (envOfC "with_figure" (defScope s_with_figure) s.heap.objs.size f cdv))) :
    QSs (cxOf CX0 P w K mg base n_with_figure "with_figure" (defScope s_with_figure) f cdv A outer s H E).nox [] (defBody s_with_figure) r_with_figure :=
  (qss_cons (qs_set 2 sc_with_figure.nd (qe_add ((qv_ix (qp_var 0) (qv_int).p)).p ((qv_tup (ql_cons (qv_var 1) ql_nil))).p))
  (qss_cons (qs_expr (qe_call h_need_unlike (hr.mono (by decide)) (qa_cons (qp_var 2) qa_nil)))
  (qss_one (qs_ret (QV.o (qv_tup (ql_cons (qv_var 2) (ql_cons (QE.v (qe_tuple g.tuple (qa_cons ((QE.v (qe_lc (own := [("parts", 3), ("due", 4)]) rfl sc_with_figure.nd (qf_seq (qv_ix (qp_var 0) (qv_int).p)) (blkOk_by (by rfl)) (fun _ _ _ _ _ => (qg_tup 2 rfl (qgs_cons (qg_name 3 sc_with_figure.nd) (qgs_cons (qg_name 4 sc_with_figure.nd) qgs_nil)))) (fun _ _ _ _ _ => qts_nil) (fun _ _ _ _ _ => (qv_tup (ql_cons (QE.v (qe_add (qp_var 3) ((qv_tup (ql_cons qv_int ql_nil))).p)) (ql_cons (qv_var 4) ql_nil))))))).p qa_nil))) ql_nil))))))))

/-! ### renamed_book -/
abbrev s_renamed_book : Stmt := topS 51
abbrev n_renamed_book : List Str := ["book", "pairs", "fresh", "names", "name"]
theorem sc_renamed_book : FnScope n_renamed_book ["book", "pairs"] (defScope s_renamed_book) := ⟨rfl, rfl, rfl, by decide +kernel, rfl, by decide +kernel, by decide +kernel⟩
def r_renamed_book : RS := (rSeq (rSet 2 (rDict (rN 1)))
  (rSeq (rSet 3 (rCB fTuple (rACons (rP (rD (rLc (rFs (rD (rOp dIx (rN 0) (rP (rC (.int 0)))))) (rGn 4) rYes (rGet 2 (rVar 4) (rVar 4)) [4]))) rANil)))
  (rSeq (rDrop (rCall sp_need_unlike (rACons (rN 3) rANil)))
  (rRet (rO (rTup (rCons (rVar 3) (rCons (rD (rOp dIx (rN 0) (rP (rC (.int 1))))) rNil))))))))
theorem q_renamed_book {P : Program} {w : World} {K : Fg} {mg : Str → Option Value} {base : Heap} {f : Addr} (g : Gs K mg) (h_need_unlike : Has P w K mg base "need_unlike" ["names"] 1 sp_need_unlike) (cdv : Value) (A : Around) (outer : List PySem.Env) (s : Shared) (H : Hp) (E : XK) (hr : Room 1 (A.deeper (envOfC "renamed_book" (defScope s_renamed_book) s.heap.objs.size f cdv))) :
    QSs (cxOf CX0 P w K mg base n_renamed_book "renamed_book" (defScope s_renamed_book) f cdv A outer s H E).nox [] (defBody s_renamed_book) r_renamed_book :=
  (qss_cons (qs_set 2 sc_renamed_book.nd (qe_dict rfl g.dict (qp_var 1)))
  (qss_cons (qs_set 3 sc_renamed_book.nd (qe_tuple g.tuple (qa_cons ((QE.v (qe_lc (own := [("name", 4)]) rfl sc_renamed_book.nd (qf_seq (qv_ix (qp_var 0) (qv_int).p)) (blkOk_by (by rfl)) (fun _ _ _ _ _ => (qg_name 4 sc_renamed_book.nd)) (fun _ _ _ _ _ => qts_nil) (fun _ _ _ _ _ => (qv_get 2 hr.units (qv_var 4) (qv_var 4)))))).p qa_nil)))
  (qss_cons (qs_expr (qe_call h_need_unlike (hr.mono (by decide)) (qa_cons (qp_var 3) qa_nil)))
  (qss_one (qs_ret (QV.o (qv_tup (ql_cons (qv_var 3) (ql_cons (qv_ix (qp_var 0) (qv_int).p) ql_nil)))))))))

/-! ### placed_parts -/
abbrev s_placed_parts : Stmt := topS 53
abbrev n_placed_parts : List Str := ["parts", "places", "many", "row", "part", "place"]
theorem sc_placed_parts : FnScope n_placed_parts ["parts", "places", "many"] (defScope s_placed_parts) := ⟨rfl, rfl, rfl, by decide +kernel, rfl, by decide +kernel, by decide +kernel⟩
def r_placed_parts : RS := (rSeq (rSet 3 (rRepL (rLst (rCons (rC (.int 0)) rNil)) (rVar 2)))
  (rSeq (rForT (rZip (rVar 0) (rVar 1)) 2 (rGcons (rGn 4) (rGcons (rGn 5) rGnil)) (rSetIx 3 (rVar 4) (rVar 5)))
  (rRet (rCB fTuple (rACons (rN 3) rANil)))))
theorem q_placed_parts {P : Program} {w : World} {K : Fg} {mg : Str → Option Value} {base : Heap} {f : Addr} (g : Gs K mg) (cdv : Value) (A : Around) (outer : List PySem.Env) (s : Shared) (H : Hp) (E : XK) (hr : Room 0 (A.deeper (envOfC "placed_parts" (defScope s_placed_parts) s.heap.objs.size f cdv))) :
    QSs (cxOf CX0 P w K mg base n_placed_parts "placed_parts" (defScope s_placed_parts) f cdv A outer s H E).nox [] (defBody s_placed_parts) r_placed_parts :=
  (qss_cons (qs_set 3 sc_placed_parts.nd (qe_repL (qe_lst (ql_cons qv_int ql_nil)) (qv_var 2)))
  (qss_cons (qs_forT 2 PassesOwn.never rfl (qf_zip g.zip (qv_var 0) (qv_var 1)) (qgs_cons (qg_name 4 sc_placed_parts.nd) (qgs_cons (qg_name 5 sc_placed_parts.nd) qgs_nil)) (qss_one (qs_setIx 3 (qv_var 4) (qv_var 5))))
  (qss_one (qs_ret (qe_tuple g.tuple (qa_cons (qp_var 3) qa_nil))))))

/-! ### joined_book -/
abbrev s_joined_book : Stmt := topS 54
abbrev n_joined_book : List Str := ["one", "other", "names", "name", "rows", "book", "places", "parts", "due"]
theorem sc_joined_book : FnScope n_joined_book ["one", "other"] (defScope s_joined_book) := ⟨rfl, rfl, rfl, by decide +kernel, rfl, by decide +kernel, by decide +kernel⟩
def r_joined_book : RS := (rSeq (rSet 2 (rOp dAdd (rP (rD (rOp dIx (rN 0) (rP (rC (.int 0)))))) (rP (rD (rCB fTuple (rACons (rP (rD (rLc (rFs (rD (rOp dIx (rN 1) (rP (rC (.int 0)))))) (rGn 3) (rCmp (dIn true) (rN 3) (rP (rD (rOp dIx (rN 0) (rP (rC (.int 0))))))) (rVar 3) [3]))) rANil))))))
  (rSeq (rSet 4 (rLst rNil))
  (rSeq (rFor (rFs (rTup (rCons (rVar 0) (rCons (rVar 1) rNil)))) (rGn 5) (rSeq (rSet 6 (rLc (rFs (rD (rOp dIx (rN 5) (rP (rC (.int 0)))))) (rGn 3) rYes (rIndex (rVar 2) (rVar 3)) [3]))
  (rDrop (rExt 4 (rD (rLc (rFs (rD (rOp dIx (rN 5) (rP (rC (.int 1)))))) (rGt 2 (rGcons (rGn 7) (rGcons (rGn 8) rGnil))) rYes (rTup (rCons (rD (rCall sp_placed_parts (rACons (rN 7) (rACons (rP (rVar 6)) (rACons (rP (rD (rCB fLen (rACons (rN 2) rANil)))) rANil))))) (rCons (rVar 8) rNil))) [7, 8]))))))
  (rRet (rO (rTup (rCons (rVar 2) (rCons (rD (rCB fTuple (rACons (rN 4) rANil))) rNil))))))))
theorem q_joined_book {P : Program} {w : World} {K : Fg} {mg : Str → Option Value} {base : Heap} {f : Addr} (g : Gs K mg) (h_placed_parts : Has P w K mg base "placed_parts" ["parts", "places", "many"] 1 sp_placed_parts) (cdv : Value) (A : Around) (outer : List PySem.Env) (s : Shared) (H : Hp) (E : XK) (hr : Room 1 (A.deeper (envOfC "joined_book" (defScope s_joined_book) s.heap.objs.size f cdv))) :
    QSs (cxOf CX0 P w K mg base n_joined_book "joined_book" (defScope s_joined_book) f cdv A outer s H E).nox [] (defBody s_joined_book) r_joined_book :=
  (qss_cons (qs_set 2 sc_joined_book.nd (qe_add ((qv_ix (qp_var 0) (qv_int).p)).p ((QE.v (qe_tuple g.tuple (qa_cons ((QE.v (qe_lc (own := [("name", 3)]) rfl sc_joined_book.nd (qf_seq (qv_ix (qp_var 1) (qv_int).p)) (blkOk_by (by rfl)) (fun _ _ _ _ _ => (qg_name 3 sc_joined_book.nd)) (fun _ _ _ _ _ => (qts_one (qt_notin (qp_var 3) ((qv_ix (qp_var 0) (qv_int).p)).p))) (fun _ _ _ _ _ => (qv_var 3))))).p qa_nil)))).p))
  (qss_cons (qs_set 4 sc_joined_book.nd (qe_lst ql_nil))
  (qss_cons (qs_for PassesOwn.never rfl (qf_seq (qv_tup (ql_cons (qv_var 0) (ql_cons (qv_var 1) ql_nil)))) (qg_name 5 sc_joined_book.nd) (qss_cons (qs_set 6 sc_joined_book.nd (qe_lc (own := [("name", 3)]) rfl sc_joined_book.nd (qf_seq (qv_ix (qp_var 5) (qv_int).p)) (blkOk_by (by rfl)) (fun _ _ _ _ _ => (qg_name 3 sc_joined_book.nd)) (fun _ _ _ _ _ => qts_nil) (fun _ _ _ _ _ => (qv_index (qv_var 2) (qv_var 3)))))
  (qss_one (qs_expr (qe_extend 4 (QE.v (qe_lc (own := [("parts", 7), ("due", 8)]) rfl sc_joined_book.nd (qf_seq (qv_ix (qp_var 5) (qv_int).p)) (blkOk_by (by rfl)) (fun _ _ _ _ _ => (qg_tup 2 rfl (qgs_cons (qg_name 7 sc_joined_book.nd) (qgs_cons (qg_name 8 sc_joined_book.nd) qgs_nil)))) (fun _ _ _ _ _ => qts_nil) (fun _ _ _ _ _ => (qv_tup (ql_cons (QE.v (qe_call h_placed_parts (hr.mono (by decide)) (qa_cons (qp_var 7) (qa_cons ((qv_var 6).p) (qa_cons ((QE.v (qe_len g.len (qa_cons (qp_var 2) qa_nil)))).p qa_nil))))) (ql_cons (qv_var 8) ql_nil)))))))))))
  (qss_one (qs_ret (QV.o (qv_tup (ql_cons (qv_var 2) (ql_cons (QE.v (qe_tuple g.tuple (qa_cons (qp_var 4) qa_nil))) ql_nil)))))))))

theorem m_need_unlike (os : List O) (Q : O → List O → Prop) (h : sp_need_unlike os Q) : Ends r_need_unlike n_need_unlike os Q := by
  obtain ⟨ns, rfl, nd, hl, q⟩ := h
  walk_at "wh"
  refine ⟨ns, strsOf_map ns, nd, hl, ?_⟩
  walk_at "wh"
  refine decI (fun h => ?_) (fun h => ?_)
  · have h : decide (((ns.length : Nat) : Int) < (((ns.map PyData.str).length : Nat) : Int)) = true := h
    rw [List.length_map] at h
    simp at h
  · walk_at "wh"
    exact q
theorem m_without_sum (os : List O) (Q : O → List O → Prop) (h : sp_without_sum os Q) : Ends r_without_sum n_without_sum os Q := by
  obtain ⟨rows, ns, a, rfl, hl, q⟩ := h
  have e1 : cut (rows.map sumD) none (some ((a : Nat) : Int)) = (rows.take a).map sumD := by rw [cut_take, List.map_take]
  have e2 : cut (rows.map sumD) (some ((a : Nat) + 1 : Int)) none = (rows.drop (a + 1)).map sumD := by
    rw [show ((a : Nat) + 1 : Int) = ((a + 1 : Nat) : Int) from rfl, cut_drop, List.map_drop]
  walk_at "go"
  · rw [e1, e2, ← List.map_append]
    exact q
  · exact (by decide : 2 ≤ sizeLine)
  · rw [e1, e2, List.length_map, List.length_map, List.length_take, List.length_drop]
    exact Nat.le_of_lt (small64 (by omega))
theorem m_with_figure (os : List O) (Q : O → List O → Prop) (h : sp_with_figure os Q) : Ends r_with_figure n_with_figure os Q := by
  obtain ⟨rows, ns, x, rfl, nd, hl, hr, hw, q⟩ := h
  have en : ns.map PyData.str ++ [.str x] = (ns ++ [x]).map PyData.str := by rw [List.map_append]; rfl
  walk_at "go"
  · rw [en]
    refine ⟨ns ++ [x], rfl, nd, by rw [List.length_append, List.length_singleton]; omega, ?_⟩
    walk_at "go"
    · refine lc_mapE (fun e => e = [some (.d (bookD ns rows)), some (.d (.str x)), some (.d (.tuple ((ns ++ [x]).map PyData.str))), none, none]) (ys := (rows.map fun s => (s.1 ++ [0], s.2)).map sumD) rfl (by simp) (by rw [List.length_map]; omega) ?_ ?_
      · rintro j z y k' _ rfl hx hy hk'
        obtain ⟨s, hs, rfl⟩ := get_map hx
        have hy2 : y = sumD (s.1 ++ [0], s.2) := by
          rw [List.getElem?_map, List.getElem?_map, hs] at hy
          exact (Option.some.inj hy).symm
        subst hy2
        have e3 : sumD (s.1 ++ [0], s.2) = .tuple [.tuple (zD s.1 ++ [.int 0]), qD s.2] := by
          unfold sumD zD
          rw [List.map_append]
          rfl
        rw [e3] at hk'
        have hsw := hw s (List.mem_of_getElem? hs)
        walk_at "wh"
        refine ⟨rfl, ?_⟩
        walk_at "go"
        · exact hk' _ rfl
        · exact (by decide : 2 ≤ sizeLine)
        · show (zD s.1).length + 1 ≤ sizeLine
          unfold zD
          rw [List.length_map]
          exact Nat.le_of_lt (small64 (by omega))
        · exact (by decide : 1 ≤ sizeLine)
      rintro e rfl
      walk_at "go"
      · exact q
      · exact (by decide : 2 ≤ sizeLine)
  · show (ns.map PyData.str).length + 1 ≤ sizeLine
    rw [List.length_map]
    exact Nat.le_of_lt (Pf.small64 (by omega))
  · exact (by decide : 1 ≤ sizeLine)
theorem m_renamed_book (os : List O) (Q : O → List O → Prop) (h : sp_renamed_book os Q) : Ends r_renamed_book n_renamed_book os Q := by
  obtain ⟨rows, ns, a, b, rfl, nd, hl, q⟩ := h
  walk_at "go"
  refine lc_mapE (fun e => e = [some (.d (bookD ns rows)), some (.d (.tuple [.tuple [.str a, .str b]])), some (.dct [(.inr a, .str b)]), none, none]) (ys := (renamed ns a b).map PyData.str) rfl (by simp [renamed]) (by rw [List.length_map]; omega) ?_ ?_
  · rintro j z y k' _ rfl hx hy hk'
    obtain ⟨x, hs, rfl⟩ := get_map hx
    have hy2 : y = .str (if x = a then b else x) := by
      unfold renamed at hy
      rw [List.getElem?_map, List.getElem?_map, hs] at hy
      exact (Option.some.inj hy).symm
    subst hy2
    walk_at "wh"
    refine ⟨_, rfl, ?_⟩
    walk_at "go"
    have ef : (findD [(.inr a, .str b)] (.inr x)).getD (.str x) = .str (if x = a then b else x) := by
      unfold findD
      by_cases e : x = a
      · subst e
        simp
      · have e2 : ¬ (Sum.inr a : Key) = Sum.inr x := fun z => e (Sum.inr.inj z).symm
        simp [e, e2]
    · rw [ef]
      exact hk' _ rfl
    · rfl
  rintro e rfl
  walk_at "wh"
  refine ⟨renamed ns a b, rfl, nd, by unfold renamed; rw [List.length_map]; omega, ?_⟩
  walk_at "go"
  · exact q
  · exact (by decide : 2 ≤ sizeLine)
theorem rep_zeroI (n : Nat) : (List.replicate (n : Int).toNat [PyData.int 0]).flatten = (List.replicate n (0 : Int)).map PyData.int := by
  rw [rep_flat, List.map_replicate, Int.toNat_natCast]
theorem m_placed_parts (os : List O) (Q : O → List O → Prop) (h : sp_placed_parts os Q) : Ends r_placed_parts n_placed_parts os Q := by
  obtain ⟨parts, n, rfl, hp, hn, q⟩ := h
  walk_at "go"
  · refine ⟨fun j e => ∃ o4 o5, e = [some (.d (.tuple (zD parts))), some (.d (.list (natD (List.range n)))), some (.d (.int (n : Nat))), some (.own ((parts.take j ++ List.replicate (n - j) (0 : Int)).map PyData.int)), o4, o5], ⟨none, none, ?_⟩, ?_, ?_⟩
    · have e0 : (parts.take 0 ++ List.replicate (n - 0) (0 : Int)).map PyData.int = (List.replicate (n : Int).toNat [PyData.int 0]).flatten := by
        rw [rep_zeroI]
        rfl
      rw [e0]
      rfl
    · rintro j xs e hx ⟨o4, o5, rfl⟩
      obtain ⟨a, b, ha, hb, rfl⟩ := zipD_at (f := PyData.int) (g := fun n : Nat => PyData.int (n : Nat)) hx
      have hj : j < n := by rw [← hp]; exact (List.getElem?_eq_some_iff.mp ha).1
      rw [List.getElem?_range hj] at hb
      cases hb
      refine ⟨rfl, ?_⟩
      walk_at "wh"
      refine ⟨j, ixN_nat (by rw [List.length_map, List.length_append, List.length_take, List.length_replicate]; omega), ?_⟩
      rw [map_set2]
      walk_at "wh"
      have es : (parts.take j ++ List.replicate (n - j) (0 : Int)).set j a = parts.take (j + 1) ++ List.replicate (n - (j + 1)) 0 := by
        rw [List.set_append_right _ _ (by rw [List.length_take]; omega), List.length_take, show j - min j parts.length = 0 by omega, show n - j = (n - (j + 1)) + 1 by omega, List.replicate_succ, List.set_cons_zero, List.take_add_one, ha]
        simp
      rw [es]
      exact ⟨_, _, rfl⟩
    · rintro e ⟨o4, o5, rfl⟩
      have el : (zipD (zD parts) (natD (List.range n))).length = n := by
        show (zipD (parts.map PyData.int) ((List.range n).map fun n : Nat => PyData.int (n : Nat))).length = n
        rw [zipD_len, List.length_range]
        omega
      have ep : parts.take n ++ List.replicate (n - n) (0 : Int) = parts := by
        rw [Nat.sub_self, List.replicate_zero, List.append_nil, List.take_of_length_le (by omega)]
      rw [el, ep]
      walk_at "go"
      exact q
  · show 1 * (n : Int).toNat ≤ sizeLine
    have := small64 (n := n) (by omega)
    omega
  · omega
  · omega
  · exact (by decide : 1 ≤ sizeLine)
theorem index_at {ns : List Str} (nd : ns.Nodup) {j : Nat} {x : Str} (h : ns[j]? = some x) : ∀ m, m < j → ns[m]? ≠ some x := fun m hm z => by
  obtain ⟨h1, e1⟩ := List.getElem?_eq_some_iff.mp h
  obtain ⟨h2, e2⟩ := List.getElem?_eq_some_iff.mp z
  exact List.pairwise_iff_getElem.mp nd m j h2 h1 hm (e2.trans e1.symm)
theorem inD_str (x : Str) (ns : List Str) : inD (.str x) (ns.map PyData.str) = decide (x ∈ ns) := by
  unfold inD
  rw [List.any_map]
  by_cases h : x ∈ ns
  · rw [decide_eq_true h, List.any_eq_true]
    exact ⟨x, h, by show (x == x) = true; simp⟩
  · rw [decide_eq_false h, List.any_eq_false]
    intro y hy
    show ¬ (y == x) = true
    intro z
    have : y = x := by simpa using z
    exact h (this ▸ hy)
theorem flat_strsD (ns : List Str) : (ns.map PyData.str).all flatD = true := by
  rw [List.all_map]
  exact List.all_eq_true.mpr fun _ _ => rfl
def lend (fr : Bool) (xs : List D) : O := if fr then .d (.list xs) else .own xs
theorem m_joined_book (os : List O) (Q : O → List O → Prop) (h : sp_joined_book os Q) : Ends r_joined_book n_joined_book os Q := by
  obtain ⟨one, other, ns, rfl, nd, hl, h1, h2, hw1, hw2, q⟩ := h
  walk_at "go"
  refine lc_filterE (p := fun _ => false) (g := id) (fun e => e = [some (.d (bookD ns one)), some (.d (bookD ns other)), none, none, none, none, none, none, none]) rfl (by rw [List.length_map]; omega) ?_ ?_
  · rintro j z k1 k2 _ rfl hx hk1 hk2
    obtain ⟨x, hs, rfl⟩ := get_map hx
    walk_at "go"
    · refine decI (fun h => ?_) (fun h => ?_)
      · have h : (!inD (.str x) (ns.map PyData.str)) = true := h
        rw [inD_str, decide_eq_true (List.mem_of_getElem? hs)] at h
        cases h
      · walk_at "wh"
        exact hk2 rfl _ rfl
    · exact flat_strsD ns
    · rfl
  rintro e rfl
  have ef : ((ns.map PyData.str).filter fun _ => false).map id = [] := by simp
  rw [ef]
  have en : ns.map PyData.str ++ [] = ns.map PyData.str := List.append_nil _
  walk_at "go"
  · rw [en]
    refine ⟨fun j e => ∃ o5 o6, e = [some (.d (bookD ns one)), some (.d (bookD ns other)), some (.d (.tuple (ns.map PyData.str))), none, some (.own ((([one, other].take j).flatten).map sumD)), o5, o6, none, none], ⟨none, none, rfl⟩, ?_, ?_⟩
    · rintro j x e hx ⟨o5, o6, rfl⟩
      have hx' : ([one, other].map (bookD ns))[j]? = some x := hx
      obtain ⟨bk, hb, rfl⟩ := get_map hx'
      have hbm := List.mem_of_getElem? hb
      have hbw : ∀ s ∈ bk, s.1.length = ns.length := by
        rcases List.mem_cons.mp hbm with e | hbm
        · rw [e]; exact hw1
        · rw [List.mem_singleton.mp hbm]; exact hw2
      have hbl : bk.length ≤ 200 := by
        rcases List.mem_cons.mp hbm with e | hbm
        · rw [e]; exact h1
        · rw [List.mem_singleton.mp hbm]; exact h2
      walk_at "go"
      refine lc_mapE (fun e => e = [some (.d (bookD ns one)), some (.d (bookD ns other)), some (.d (.tuple (ns.map PyData.str))), none, some (.own ((([one, other].take j).flatten).map sumD)), some (.d (bookD ns bk)), o6, none, none]) (ys := natD (List.range ns.length)) rfl (by rw [List.length_map, natD_len, List.length_range]) (by rw [List.length_map]; omega) ?_ ?_
      · rintro i y z k' _ rfl hy hz hk'
        obtain ⟨nm, hnm, rfl⟩ := get_map hy
        have hi : i < ns.length := (List.getElem?_eq_some_iff.mp hnm).1
        have hz2 : z = .int (i : Nat) := by
          unfold natD at hz
          rw [List.getElem?_map, List.getElem?_range hi] at hz
          exact (Option.some.inj hz).symm
        subst hz2
        walk_at "wh"
        exact ⟨ns, i, strsOf_map ns, hnm, index_at nd hnm, hk' _ rfl⟩
      rintro e rfl
      walk_at "go"
      refine lc_mapE (fun e => ∃ fr, e = [some (.d (bookD ns one)), some (.d (bookD ns other)), some (.d (.tuple (ns.map PyData.str))), none, some (.own ((([one, other].take j).flatten).map sumD)), some (.d (bookD ns bk)), some (lend fr (natD (List.range ns.length))), none, none]) (ys := bk.map sumD) ⟨false, rfl⟩ rfl (by rw [List.length_map]; omega) ?_ ?_
      · rintro i y z k' _ ⟨fr, rfl⟩ hy hz hk'
        obtain ⟨s, hs, rfl⟩ := get_map hy
        rw [List.getElem?_map, hs] at hz
        have hz2 : z = sumD s := (Option.some.inj hz).symm
        subst hz2
        have hsw := hbw s (List.mem_of_getElem? hs)
        cases fr
        · walk_at "wh"
          refine ⟨rfl, ?_⟩
          walk_at "wh"
          refine ⟨s.1, ns.length, ?_, hsw, by omega, ?_⟩
          · show [O.d (.tuple (zD s.1)), O.d (.list (natD (List.range ns.length))), O.d (.int ((ns.map PyData.str).length : Nat))] = _
            rw [List.length_map]
          walk_at "go"
          · exact hk' _ ⟨true, rfl⟩
          · exact (by decide : 2 ≤ sizeLine)
        · walk_at "wh"
          refine ⟨rfl, ?_⟩
          walk_at "wh"
          refine ⟨s.1, ns.length, ?_, hsw, by omega, ?_⟩
          · show [O.d (.tuple (zD s.1)), O.d (.list (natD (List.range ns.length))), O.d (.int ((ns.map PyData.str).length : Nat))] = _
            rw [List.length_map]
          walk_at "go"
          · exact hk' _ ⟨true, rfl⟩
          · exact (by decide : 2 ≤ sizeLine)
      rintro e ⟨fr, rfl⟩
      have ej : (([one, other].take (j + 1)).flatten).map sumD = (([one, other].take j).flatten).map sumD ++ bk.map sumD := by
        rw [List.take_add_one, hb, List.flatten_append, List.map_append]
        simp
      have hlen : ((([one, other].take j).flatten).map sumD).length ≤ 400 := by
        rw [List.length_map]
        have hj : j < 2 := (List.getElem?_eq_some_iff.mp hb).1
        cases j with
        | zero => exact Nat.zero_le _
        | succ j =>
          have : j = 0 := by omega
          subst this
          simp
          omega
      walk_at "go"
      · rw [ej]
        exact ⟨_, _, rfl⟩
      · rw [List.length_map (as := bk)]
        exact Nat.le_of_lt (Pf.small64 (by omega))
    · rintro e ⟨o5, o6, rfl⟩
      have ej : ([one, other].take [bookD ns one, bookD ns other].length).flatten = one ++ other := by simp
      rw [ej]
      walk_at "go"
      · exact q
      · exact (by decide : 2 ≤ sizeLine)
  · exact (by decide : 2 ≤ sizeLine)
  · exact Nat.zero_le _
  · show (ns.map PyData.str).length + 0 ≤ sizeLine
    rw [List.length_map]
    exact Nat.le_of_lt (Pf.small64 (by omega))
theorem f_need_unlike {P : Program} {w : World} {K : Fg} {mg : Str → Option Value} {base : Heap} {f : Addr} {fd : FuncData} (g : Gs K mg) (F : Fun K "need_unlike" "need_unlike" s_need_unlike f fd) : FnOk P w K mg base CX0 1 f fd ["names"] (SpOf K sp_need_unlike) :=
  fn_ok F sc_need_unlike [] (fun cdv A outer s H E hr => q_need_unlike g cdv A outer s H E hr) (by walk_at "len") (by walk_at "keep") m_need_unlike
theorem mono_need_unlike : sp_need_unlike.Mono := by walk_at "mono"

theorem f_without_sum {P : Program} {w : World} {K : Fg} {mg : Str → Option Value} {base : Heap} {f : Addr} {fd : FuncData} (g : Gs K mg) (F : Fun K "without_sum" "without_sum" s_without_sum f fd) : FnOk P w K mg base CX0 1 f fd ["book", "number"] (SpOf K sp_without_sum) :=
  fn_ok F sc_without_sum [] (fun cdv A outer s H E hr => q_without_sum g cdv A outer s H E hr) (by walk_at "len") (by walk_at "keep") m_without_sum
theorem mono_without_sum : sp_without_sum.Mono := by walk_at "mono"

theorem f_with_figure {P : Program} {w : World} {K : Fg} {mg : Str → Option Value} {base : Heap} {f : Addr} {fd : FuncData} (g : Gs K mg) (h_need_unlike : Has P w K mg base "need_unlike" ["names"] 1 sp_need_unlike) (F : Fun K "with_figure" "with_figure" s_with_figure f fd) : FnOk P w K mg base CX0 2 f fd ["book", "name"] (SpOf K sp_with_figure) :=
  fn_ok F sc_with_figure [] (fun cdv A outer s H E hr => q_with_figure g h_need_unlike cdv A outer s H E hr) (by walk_at "len") (by walk_at "keep") m_with_figure
theorem mono_with_figure : sp_with_figure.Mono := by walk_at "mono"

theorem f_renamed_book {P : Program} {w : World} {K : Fg} {mg : Str → Option Value} {base : Heap} {f : Addr} {fd : FuncData} (g : Gs K mg) (h_need_unlike : Has P w K mg base "need_unlike" ["names"] 1 sp_need_unlike) (F : Fun K "renamed_book" "renamed_book" s_renamed_book f fd) : FnOk P w K mg base CX0 2 f fd ["book", "pairs"] (SpOf K sp_renamed_book) :=
  fn_ok F sc_renamed_book [] (fun cdv A outer s H E hr => q_renamed_book g h_need_unlike cdv A outer s H E hr) (by walk_at "len") (by walk_at "keep") m_renamed_book
theorem mono_renamed_book : sp_renamed_book.Mono := by walk_at "mono"

theorem f_placed_parts {P : Program} {w : World} {K : Fg} {mg : Str → Option Value} {base : Heap} {f : Addr} {fd : FuncData} (g : Gs K mg) (F : Fun K "placed_parts" "placed_parts" s_placed_parts f fd) : FnOk P w K mg base CX0 1 f fd ["parts", "places", "many"] (SpOf K sp_placed_parts) :=
  fn_ok F sc_placed_parts [] (fun cdv A outer s H E hr => q_placed_parts g cdv A outer s H E hr) (by walk_at "len") (by walk_at "keep") m_placed_parts
theorem mono_placed_parts : sp_placed_parts.Mono := by walk_at "mono"

theorem f_joined_book {P : Program} {w : World} {K : Fg} {mg : Str → Option Value} {base : Heap} {f : Addr} {fd : FuncData} (g : Gs K mg) (h_placed_parts : Has P w K mg base "placed_parts" ["parts", "places", "many"] 1 sp_placed_parts) (F : Fun K "joined_book" "joined_book" s_joined_book f fd) : FnOk P w K mg base CX0 2 f fd ["one", "other"] (SpOf K sp_joined_book) :=
  fn_ok F sc_joined_book [] (fun cdv A outer s H E hr => q_joined_book g h_placed_parts cdv A outer s H E hr) (by walk_at "len") (by walk_at "keep") m_joined_book
theorem mono_joined_book : sp_joined_book.Mono := by walk_at "mono"

end K82
set_option Elab.async false
set_option linter.all false
set_option maxRecDepth 100000
set_option maxHeartbeats 4000000
set_option exponentiation.threshold 20000
set_option pp.deepTerms false
set_option pp.maxSteps 500
namespace K82
open PySem PySem.Spec PyProof.Rows L2 Pf
local macro_rules | `(tactic| walk_at "go") => `(tactic| (conv => whnf) <;> repeat ((first | refine atE rfl ?_ | refine andR ?_ ?_); (conv => whnf)))
local macro_rules | `(tactic| walk_at "wh") => `(tactic| conv => whnf)
local macro_rules | `(tactic| walk_at "len") => `(tactic| (intro os Q h; (repeat (obtain ⟨_, h⟩ := h)); subst_vars; rfl))
local macro_rules | `(tactic| walk_at "keep") => `(tactic| (intro os Q h; (repeat (obtain ⟨_, h⟩ := h)); subst_vars; simp [keepOk]))
local macro_rules | `(tactic| walk_at "mono") => `(tactic| (intro os k k' f; repeat (first | exact f _ _ | refine Exists.imp fun _ => ?_ | refine And.imp_right ?_ | refine forall_imp fun _ => ?_)))
/-! no figure hidden -/
def sp_hidden_book : FSp := fun os Q => ∃ (rows : List Sm) (ns : List Str) (k : Nat), os = [.d (bookD ns rows), .d (.tuple [])] ∧ FormOk ns.length k rows ∧ FormOk ns.length k (formP ns.length rows) ∧ Q (.d (bookD ns (formP ns.length (formP ns.length rows)))) os
/-! ### hidden_book -/
abbrev s_hidden_book : Stmt := topS 56
abbrev n_hidden_book : List Str := ["book", "numbers", "kept", "figure", "rows", "row", "names"]
theorem sc_hidden_book : FnScope n_hidden_book ["book", "numbers"] (defScope s_hidden_book) := ⟨rfl, rfl, rfl, by decide +kernel, rfl, by decide +kernel, by decide +kernel⟩
def r_hidden_book : RS := (rSeq (rDrop (rCall sp_need_world (rACons (rN 0) rANil)))
  (rSeq (rSet 2 (rLc (rRng1 (rD (rCB fLen (rACons (rP (rD (rOp dIx (rN 0) (rP (rC (.int 0)))))) rANil)))) (rGn 3) (rCmp (dIn true) (rN 3) (rN 1)) (rVar 3) [3]))
  (rSeq (rSet 4 (rLst rNil))
  (rSeq (rFor (rFs (rD (rCall sp_row_form_by (rACons (rN 0) (rACons (rP (rD (rOp dAdd (rP (rD (rCB fList (rACons (rN 1) rANil)))) (rN 2)))) rANil))))) (rGn 5) (rIfS (rTb (rD (rCB fAll (rACons (rP (rD (rLc (rFs (rVar 1)) (rGn 3) rYes (rTV (rCmp (dEq false) (rP (rD (rOp dIx (rN 5) (rN 3)))) (rP (rC d_ZERO)))) [3]))) rANil)))) (rDrop (rApp 4 (rD (rCall sp_sum_of_row (rACons (rP (rD (rOp dAdd (rP (rD (rLc (rFs (rVar 2)) (rGn 3) rYes (rD (rOp dIx (rN 5) (rN 3))) [3]))) (rP (rD (rSl (rN 5) (rSoI (rNeg (rC (.int 1)))) rNoI)))))) rANil))))) rNext))
  (rSeq (rSet 6 (rCB fTuple (rACons (rP (rD (rLc (rFs (rVar 2)) (rGn 3) rYes (rD (rOp dIx (rP (rD (rOp dIx (rN 0) (rP (rC (.int 0)))))) (rN 3))) [3]))) rANil)))
  (rRet (rO (rTup (rCons (rVar 6) (rCons (rD (rCall sp_row_form (rACons (rP (rTup (rCons (rVar 6) (rCons (rD (rCB fTuple (rACons (rN 4) rANil))) rNil)))) rANil))) rNil))))))))))
theorem q_hidden_book {P : Program} {w : World} {K : Fg} {mg : Str → Option Value} {base : Heap} {f : Addr} (g : Gs K mg) (h_need_world : Has P w K mg base "need_world" ["book"] 8 sp_need_world) (h_sum_of_row : Has P w K mg base "sum_of_row" ["row"] 3 sp_sum_of_row) (h_row_form_by : Has P w K mg base "row_form_by" ["book", "columns"] 5 sp_row_form_by) (h_row_form : Has P w K mg base "row_form" ["book"] 9 sp_row_form) (cdv : Value) (A : Around) (outer : List PySem.Env) (s : Shared) (H : Hp) (E : XK) (hr : Room 9 (A.deeper (envOfC "hidden_book" (defScope s_hidden_book) s.heap.objs.size f cdv))) :
    QSs (cxOf CX0 P w K mg base n_hidden_book "hidden_book" (defScope s_hidden_book) f cdv A outer s H E).nox [] (defBody s_hidden_book) r_hidden_book :=
  (qss_cons (qs_expr (qe_call h_need_world (hr.mono (by decide)) (qa_cons (qp_var 0) qa_nil)))
  (qss_cons (qs_setLc (own := [("figure", 3)]) 2 rfl sc_hidden_book.nd (qf_range1 g.range (QE.v (qe_len g.len (qa_cons ((qv_ix (qp_var 0) (qv_int).p)).p qa_nil)))) (blkOk_by (by rfl)) (fun _ _ _ _ _ => (qg_name 3 sc_hidden_book.nd)) (fun _ _ _ _ _ => (qts_one (qt_notin (qp_var 3) (qp_var 1)))) (fun _ _ _ _ _ => (qv_var 3)))
  (qss_cons (qs_set 4 sc_hidden_book.nd (qe_lst ql_nil))
  (qss_cons (qs_for PassesOwn.never rfl (qf_seq (QE.v (qe_call h_row_form_by (hr.mono (by decide)) (qa_cons (qp_var 0) (qa_cons ((QE.v (qe_add ((QE.v (qe_list rfl g.list (qa_cons (qp_var 1) qa_nil)))).p (qp_var 2)))).p qa_nil))))) (qg_name 5 sc_hidden_book.nd) (qss_one (qs_if (qt_call (QE.v (qe_all rfl g.all (qa_cons ((QE.v (qe_lc (own := [("figure", 3)]) rfl sc_hidden_book.nd (qf_seq (qv_var 1)) (blkOk_by (by rfl)) (fun _ _ _ _ _ => (qg_name 3 sc_hidden_book.nd)) (fun _ _ _ _ _ => qts_nil) (fun _ _ _ _ _ => (qv_eq hr.units ((qv_ix (qp_var 5) (qp_var 3))).p ((g.ZERO)).p))))).p qa_nil)))) (qss_one (qs_expr (qe_append 4 (QE.v (qe_call h_sum_of_row (hr.mono (by decide)) (qa_cons ((QE.v (qe_add ((QE.v (qe_lc (own := [("figure", 3)]) rfl sc_hidden_book.nd (qf_seq (qv_var 2)) (blkOk_by (by rfl)) (fun _ _ _ _ _ => (qg_name 3 sc_hidden_book.nd)) (fun _ _ _ _ _ => qts_nil) (fun _ _ _ _ _ => (qv_ix (qp_var 5) (qp_var 3)))))).p ((QE.v (qe_slice (qp_var 5) (qi_some (qv_neg qv_int)) qi_none))).p))).p qa_nil)))))) qss_nil)))
  (qss_cons (qs_set 6 sc_hidden_book.nd (qe_tuple g.tuple (qa_cons ((QE.v (qe_lc (own := [("figure", 3)]) rfl sc_hidden_book.nd (qf_seq (qv_var 2)) (blkOk_by (by rfl)) (fun _ _ _ _ _ => (qg_name 3 sc_hidden_book.nd)) (fun _ _ _ _ _ => qts_nil) (fun _ _ _ _ _ => (qv_ix ((qv_ix (qp_var 0) (qv_int).p)).p (qp_var 3)))))).p qa_nil)))
  (qss_one (qs_ret (QV.o (qv_tup (ql_cons (qv_var 6) (ql_cons (QE.v (qe_call h_row_form (hr.mono (by decide)) (qa_cons ((qv_tup (ql_cons (qv_var 6) (ql_cons (QE.v (qe_tuple g.tuple (qa_cons (qp_var 4) qa_nil))) ql_nil)))).p qa_nil))) ql_nil)))))))))))

theorem cut_neg1 {α : Type} (xs : List α) (y : α) : cut (xs ++ [y]) (some (-1)) none = [y] := by
  have e : HT.sIx (xs ++ [y]).length 0 (some (-1)) = xs.length := by
    show (if (-1 : Int) < 0 then ((-1 : Int) + ((xs ++ [y]).length : Nat)).toNat else min (-1 : Int).toNat (xs ++ [y]).length) = xs.length
    rw [if_pos (by decide), List.length_append, List.length_singleton]
    omega
  unfold cut
  rw [e, HT.sIx_none, List.drop_left, List.length_append, List.length_singleton, Nat.add_sub_cancel_left]
  rfl
theorem m_hidden_book (os : List O) (Q : O → List O → Prop) (h : sp_hidden_book os Q) : Ends r_hidden_book n_hidden_book os Q := by
  obtain ⟨rows, ns, k, rfl, ok, ok2, q⟩ := h
  have b := ok.toBookOk
  have rok := red_ok b
  have rfit := red_fit b
  have hn := b.n4
  have hf := b.few
  have hnorm := ok.norm
  have hform : formP ns.length rows = ((red ns.length rows).1.take (red ns.length rows).2.length).map fun r => normRow (r.take ns.length) (r.getD ns.length 0) := rfl
  have ls : (ns.map PyData.str).length = ns.length := List.length_map _
  walk_at "wh"
  refine ⟨rows, ns, k, rfl, b, ok.sound, ?_⟩
  walk_at "go"
  · refine lc_filterE (p := fun _ => true) (g := id) (fun e => e = [some (.d (bookD ns rows)), some (.d (.tuple [])), none, none, none, none, none]) rfl (by rw [rngD_len, ls]; omega) ?_ ?_
    · rintro j z k1 k2 _ rfl hx hk1 hk2
      obtain ⟨ex, hj⟩ := rngD_at hx
      subst ex
      walk_at "go"
      · exact hk1 rfl _ rfl
      · rfl
      · rfl
    rintro e rfl
    have ek : ((rngD 0 ((ns.map PyData.str).length : Nat)).filter fun _ => true).map id = natD (List.range ns.length) := by
      rw [ls, rngD_nat, List.map_id, List.filter_eq_self.mpr (fun _ _ => rfl)]
    rw [ek]
    walk_at "go"
    · refine ⟨rows, ns, ns.length, k, ?_, b, ?_⟩
      · show [O.d (bookD ns rows), O.d (.list ([] ++ natD (List.range ns.length)))] = _
        rw [List.nil_append]
      generalize hst : red ns.length rows = st at *
      obtain ⟨M, lds⟩ := st
      dsimp only at rfit hnorm hform
      have lM : M.length = rows.length := rok.len
      have wM : Wide (ns.length + 1) M := rok.wide
      have lnr : (natD (List.range ns.length)).length = ns.length := by rw [natD_len, List.length_range]
      walk_at "go"
      refine ⟨fun j e => ∃ fr o5, e = [some (.d (bookD ns rows)), some (.d (.tuple [])), some (lend fr (natD (List.range ns.length))), none, some (.own ((((M.take lds.length).take j).map fun r => normRow (r.take ns.length) (r.getD ns.length 0)).map sumD)), o5, none], ⟨false, none, rfl⟩, ?_, ?_⟩
      · rintro j x e hx ⟨fr, o5, rfl⟩
        obtain ⟨r, hr, rfl⟩ := get_map hx
        have hrt := List.mem_of_getElem? hr
        have hrm : r ∈ M := List.mem_of_mem_take hrt
        obtain ⟨v, hv, hvm⟩ := getAt (show ns.length < r.length by rw [wM r hrm]; omega)
        have ev : r.getD ns.length 0 = v := by rw [List.getD_eq_getElem?_getD, hv]; rfl
        have er : r = r.take ns.length ++ [v] := by
          have h1 := List.take_append_drop ns.length r
          have h2 : r.drop ns.length = [v] := by
            refine List.ext_getElem? fun i => ?_
            rw [List.getElem?_drop]
            cases i with
            | zero => exact hv
            | succ i => rw [List.getElem?_eq_none_iff.mpr (by rw [wM r hrm]; omega)]; rfl
          rw [h2] at h1
          exact h1.symm
        have lrt : (r.take ns.length).length = ns.length := by rw [List.length_take, wM r hrm]; omega
        have em : r.map qD = (r.take ns.length).map qD ++ [qD v] := by
          conv => lhs; rw [er]
          rw [List.map_append]
          rfl
        have ej : (((M.take lds.length).take (j + 1)).map fun r => normRow (r.take ns.length) (r.getD ns.length 0)).map sumD = (((M.take lds.length).take j).map fun r => normRow (r.take ns.length) (r.getD ns.length 0)).map sumD ++ [sumD (normRow (r.take ns.length) v)] := by
          rw [List.take_add_one, hr, List.map_append, List.map_append, ← ev]
          rfl
        have lacc : ((((M.take lds.length).take j).map fun r => normRow (r.take ns.length) (r.getD ns.length 0)).map sumD).length < sizeLine := by
          rw [List.length_map, List.length_map]
          exact Pf.small64 (Nat.le_trans (List.length_take_le' _ _) (Nat.le_trans (List.length_take_le' _ _) (show M.length ≤ 1000 by omega)))
        cases fr
        all_goals
          walk_at "go"
          refine lc_mapE (fun e => ∃ fr, e = [some (.d (bookD ns rows)), some (.d (.tuple [])), some (lend fr (natD (List.range ns.length))), none, some (.own ((((M.take lds.length).take j).map fun r => normRow (r.take ns.length) (r.getD ns.length 0)).map sumD)), some (.d (rowD r)), none]) (ys := []) (by first | exact ⟨false, rfl⟩ | exact ⟨true, rfl⟩) rfl (Nat.zero_le _) (by rintro i x y k' _ _ hx; simp at hx) ?_
          rintro e ⟨fr, rfl⟩
          walk_at "go"
          cases fr
        all_goals
          refine lc_mapE (fun e => e = [some (.d (bookD ns rows)), some (.d (.tuple [])), some (.d (.list (natD (List.range ns.length)))), none, some (.own ((((M.take lds.length).take j).map fun r => normRow (r.take ns.length) (r.getD ns.length 0)).map sumD)), some (.d (rowD r)), none]) (ys := (r.take ns.length).map qD) rfl (by rw [lnr, List.length_map, lrt]) (by rw [lnr]; omega) ?_ ?_
          · rintro i x y k' _ rfl hx2 hy2 hk'
            obtain ⟨a, ha, rfl⟩ := get_map hx2
            have hi : i < ns.length := by
              have := (List.getElem?_eq_some_iff.mp ha).1
              rwa [List.length_range] at this
            rw [List.getElem?_range hi] at ha
            cases ha
            obtain ⟨z, hz, rfl⟩ := get_map hy2
            rw [List.getElem?_take, if_pos hi] at hz
            walk_at "go"
            refine ⟨_, atI_map hz, ?_⟩
            walk_at "wh"
            exact hk' _ rfl
          rintro e rfl
          walk_at "go"
          · refine ⟨r.take ns.length, v, k, ?_, hnorm r hrt, rfit r hrm v hvm, ?_⟩
            · show [O.d (.list ((r.take ns.length).map qD ++ cut (r.map qD) (some (-1)) none))] = _
              rw [em, cut_neg1]
              unfold rowD
              rw [List.map_append]
              rfl
            walk_at "go"
            · rw [ej]
              exact ⟨true, _, rfl⟩
            · exact lacc
          · show ((r.take ns.length).map qD).length + (cut (r.map qD) (some (-1)) none).length ≤ sizeLine
            rw [em, cut_neg1, List.length_map, lrt]
            exact Nat.le_of_lt (Pf.small64 (by show ns.length + 1 ≤ 1000; omega))
      · rintro e ⟨fr, o5, rfl⟩
        rw [List.length_map, List.take_length, ← hform]
        cases fr
        all_goals
          walk_at "go"
          refine lc_mapE (fun e => e = [some (.d (bookD ns rows)), some (.d (.tuple [])), some (.d (.list (natD (List.range ns.length)))), none, some (.own ((formP ns.length rows).map sumD)), o5, none]) (ys := ns.map PyData.str) rfl (by rw [lnr, ls]) (by rw [lnr]; omega) ?_ ?_
          · rintro i x y k' _ rfl hx2 hy2 hk'
            obtain ⟨a, ha, rfl⟩ := get_map hx2
            have hi : i < ns.length := by
              have := (List.getElem?_eq_some_iff.mp ha).1
              rwa [List.length_range] at this
            rw [List.getElem?_range hi] at ha
            cases ha
            walk_at "go"
            refine ⟨_, atI_mem hy2, ?_⟩
            walk_at "wh"
            exact hk' _ rfl
          rintro e rfl
          walk_at "go"
          · refine ⟨formP ns.length rows, ns, k, rfl, ok2, ?_⟩
            walk_at "go"
            · exact q
            · exact (by decide : 2 ≤ sizeLine)
          · exact (by decide : 2 ≤ sizeLine)
    · show 0 + (natD (List.range ns.length)).length ≤ sizeLine
      rw [natD_len, List.length_range]
      exact Nat.le_of_lt (Pf.small64 (by omega))
    · exact Nat.zero_le _
  · rw [ls]
    omega
  · rw [ls]
    omega
theorem f_hidden_book {P : Program} {w : World} {K : Fg} {mg : Str → Option Value} {base : Heap} {f : Addr} {fd : FuncData} (g : Gs K mg) (h_need_world : Has P w K mg base "need_world" ["book"] 8 sp_need_world) (h_sum_of_row : Has P w K mg base "sum_of_row" ["row"] 3 sp_sum_of_row) (h_row_form_by : Has P w K mg base "row_form_by" ["book", "columns"] 5 sp_row_form_by) (h_row_form : Has P w K mg base "row_form" ["book"] 9 sp_row_form) (F : Fun K "hidden_book" "hidden_book" s_hidden_book f fd) : FnOk P w K mg base CX0 10 f fd ["book", "numbers"] (SpOf K sp_hidden_book) :=
  fn_ok F sc_hidden_book [] (fun cdv A outer s H E hr => q_hidden_book g h_need_world h_sum_of_row h_row_form_by h_row_form cdv A outer s H E hr) (by walk_at "len") (by walk_at "keep") m_hidden_book
theorem mono_hidden_book : sp_hidden_book.Mono := by walk_at "mono"

end K82
set_option Elab.async false
set_option linter.all false
set_option maxRecDepth 100000
set_option maxHeartbeats 4000000
set_option exponentiation.threshold 20000
set_option pp.deepTerms false
set_option pp.maxSteps 500
namespace K82
open PySem PySem.Spec PyProof.Rows L2 Pf
local macro_rules | `(tactic| walk_at "go") => `(tactic| (conv => whnf) <;> repeat ((first | refine atE rfl ?_ | refine andR ?_ ?_); (conv => whnf)))
local macro_rules | `(tactic| walk_at "wh") => `(tactic| conv => whnf)
local macro_rules | `(tactic| walk_at "len") => `(tactic| (intro os Q h; (repeat (obtain ⟨_, h⟩ := h)); subst_vars; rfl))
local macro_rules | `(tactic| walk_at "keep") => `(tactic| (intro os Q h; (repeat (obtain ⟨_, h⟩ := h)); subst_vars; simp [keepOk]))
local macro_rules | `(tactic| walk_at "mono") => `(tactic| (intro os k k' f; repeat (first | exact f _ _ | refine Exists.imp fun _ => ?_ | refine And.imp_right ?_ | refine forall_imp fun _ => ?_)))
/-! the law's own arithmetic -/
def sp_law_whole : FSp := fun os Q => ∃ x : D, os = [.d x] ∧ Q (.d (.bool (isInt x && !isBool x))) os
def sp_law_factor : FSp := fun os Q => ∃ a b : Int, os = [.d (.int a), .d (.int b)] ∧ Q (.d (.int (Nat.gcd a.natAbs b.natAbs : Nat))) os
def sp_law_quotient : FSp := fun os Q => ∃ a b : Int, os = [.d (.int a), .d (.int b)] ∧ b ≠ 0 ∧ b.natAbs < 2 ^ 9000 ∧ Q (.d (qD (Rat.divInt a b))) os
def lineL (s : Sm) : List Int := s.1.map (fun p : Int => p * (s.2.den : Int)) ++ [s.2.num]
def sp_law_line : FSp := fun os Q => ∃ s : Sm, os = [.d (sumD s)] ∧ s.1.length ≤ 400 ∧ (∀ p ∈ s.1, p.natAbs < 2 ^ 8000) ∧ s.2.den < 2 ^ 8000 ∧ Q (.own (zD (lineL s))) os
/-! ### _law_whole -/
abbrev s_law_whole : Stmt := topS 60
abbrev n_law_whole : List Str := ["told"]
theorem sc_law_whole : FnScope n_law_whole ["told"] (defScope s_law_whole) := ⟨rfl, rfl, rfl, by decide +kernel, rfl, by decide +kernel, by decide +kernel⟩
def r_law_whole : RS := (rRet (rO (rAndV (rIsi isInt (rN 0)) (rNotV (rIsi isBool (rN 0))))))
theorem q_law_whole {P : Program} {w : World} {K : Fg} {mg : Str → Option Value} {base : Heap} {f : Addr} (g : Gs K mg) (cdv : Value) (A : Around) (outer : List PySem.Env) (s : Shared) (H : Hp) (E : XK) (hr : Room 0 (A.deeper (envOfC "_law_whole" (defScope s_law_whole) s.heap.objs.size f cdv))) :
    QSs (cxOf CX0 P w K mg base n_law_whole "_law_whole" (defScope s_law_whole) f cdv A outer s H E).nox [] (defBody s_law_whole) r_law_whole :=
  (qss_one (qs_ret (QV.o (qv_and (qv_isi_int g.isinstance g.int (qp_var 0)) (qv_one (qv_not (qv_isi_bool g.isinstance g.bool (qp_var 0))))))))

/-! ### _law_factor -/
abbrev s_law_factor : Stmt := topS 62
abbrev n_law_factor : List Str := ["one", "two", "rest"]
theorem sc_law_factor : FnScope n_law_factor ["one", "two"] (defScope s_law_factor) := ⟨rfl, rfl, rfl, by decide +kernel, rfl, by decide +kernel, by decide +kernel⟩
def r_law_factor : RS := (rSeq (rWhile (rCmp (dEq true) (rN 1) (rP (rC (.int 0)))) (rSeq (rSet 2 (rOp bMod (rP (rD (rCB fInt (rACons (rN 0) rANil)))) (rN 1)))
  (rSeq (rSet 0 (rO (rVar 1)))
  (rSet 1 (rO (rVar 2))))))
  (rRet (rCB fAbs (rACons (rN 0) rANil))))
theorem q_law_factor {P : Program} {w : World} {K : Fg} {mg : Str → Option Value} {base : Heap} {f : Addr} (g : Gs K mg) (cdv : Value) (A : Around) (outer : List PySem.Env) (s : Shared) (H : Hp) (E : XK) (hr : Room 0 (A.deeper (envOfC "_law_factor" (defScope s_law_factor) s.heap.objs.size f cdv))) :
    QSs (cxOf CX0 P w K mg base n_law_factor "_law_factor" (defScope s_law_factor) f cdv A outer s H E).nox [] (defBody s_law_factor) r_law_factor :=
  (qss_cons (qs_while PassesOwn.never (qt_ne hr.units (qp_var 1) (qv_int).p) (qss_cons (qs_set 2 sc_law_factor.nd (qe_mod ((QE.v (qe_int g.int (qa_cons (qp_var 0) qa_nil)))).p (qp_var 1)))
  (qss_cons (qs_set 0 sc_law_factor.nd (QV.o (qv_var 1)))
  (qss_one (qs_set 1 sc_law_factor.nd (QV.o (qv_var 2)))))))
  (qss_one (qs_ret (qe_abs g.abs (qa_cons (qp_var 0) qa_nil)))))

/-! ### _law_quotient -/
abbrev s_law_quotient : Stmt := topS 63
abbrev n_law_quotient : List Str := ["top", "bottom", "common"]
theorem sc_law_quotient : FnScope n_law_quotient ["top", "bottom"] (defScope s_law_quotient) := ⟨rfl, rfl, rfl, by decide +kernel, rfl, by decide +kernel, by decide +kernel⟩
def r_law_quotient : RS := (rSeq (rSet 2 (rCall sp_law_factor (rACons (rN 0) (rACons (rN 1) rANil))))
  (rSeq (rIfS (rCmp bLt (rN 1) (rP (rC (.int 0)))) (rSet 2 (rOp bSub (rP (rC (.int 0))) (rN 2))) rNext)
  (rRet (rO (rTup (rCons (rD (rOp bFdiv (rN 0) (rN 2))) (rCons (rD (rOp bFdiv (rN 1) (rN 2))) rNil)))))))
theorem q_law_quotient {P : Program} {w : World} {K : Fg} {mg : Str → Option Value} {base : Heap} {f : Addr} (g : Gs K mg) (h_law_factor : Has P w K mg base "_law_factor" ["one", "two"] 1 sp_law_factor) (cdv : Value) (A : Around) (outer : List PySem.Env) (s : Shared) (H : Hp) (E : XK) (hr : Room 1 (A.deeper (envOfC "_law_quotient" (defScope s_law_quotient) s.heap.objs.size f cdv))) :
    QSs (cxOf CX0 P w K mg base n_law_quotient "_law_quotient" (defScope s_law_quotient) f cdv A outer s H E).nox [] (defBody s_law_quotient) r_law_quotient :=
  (qss_cons (qs_set 2 sc_law_quotient.nd (qe_call h_law_factor (hr.mono (by decide)) (qa_cons (qp_var 0) (qa_cons (qp_var 1) qa_nil))))
  (qss_cons (qs_if (qt_lt (qp_var 1) (qv_int).p) (qss_one (qs_set 2 sc_law_quotient.nd (qe_sub (qv_int).p (qp_var 2)))) qss_nil)
  (qss_one (qs_ret (QV.o (qv_tup (ql_cons (QE.v (qe_fdiv (qp_var 0) (qp_var 2))) (ql_cons (QE.v (qe_fdiv (qp_var 1) (qp_var 2))) ql_nil))))))))

/-! ### _law_line -/
abbrev s_law_line : Stmt := topS 67
abbrev n_law_line : List Str := ["row", "part"]
theorem sc_law_line : FnScope n_law_line ["row"] (defScope s_law_line) := ⟨rfl, rfl, rfl, by decide +kernel, rfl, by decide +kernel, by decide +kernel⟩
def r_law_line : RS := (rRet (rOp dAdd (rP (rD (rLc (rFs (rD (rOp dIx (rN 0) (rP (rC (.int 0)))))) (rGn 1) rYes (rD (rOp dMul (rN 1) (rP (rD (rOp dIx (rP (rD (rOp dIx (rN 0) (rP (rC (.int 1)))))) (rP (rC (.int 1)))))))) [1]))) (rP (rD (rLst (rCons (rD (rOp dIx (rP (rD (rOp dIx (rN 0) (rP (rC (.int 1)))))) (rP (rC (.int 0))))) rNil))))))
theorem q_law_line {P : Program} {w : World} {K : Fg} {mg : Str → Option Value} {base : Heap} {f : Addr} (g : Gs K mg) (cdv : Value) (A : Around) (outer : List PySem.Env) (s : Shared) (H : Hp) (E : XK) (hr : Room 0 (A.deeper (envOfC "_law_line" (defScope s_law_line) s.heap.objs.size f cdv))) :
    QSs (cxOf CX0 P w K mg base n_law_line "_law_line" (defScope s_law_line) f cdv A outer s H E).nox [] (defBody s_law_line) r_law_line :=
  (qss_one (qs_ret (qe_add ((QE.v (qe_lc (own := [("part", 1)]) rfl sc_law_line.nd (qf_seq (qv_ix (qp_var 0) (qv_int).p)) (blkOk_by (by rfl)) (fun _ _ _ _ _ => (qg_name 1 sc_law_line.nd)) (fun _ _ _ _ _ => qts_nil) (fun _ _ _ _ _ => (QE.v (qe_mul (qp_var 1) ((qv_ix ((qv_ix (qp_var 0) (qv_int).p)).p (qv_int).p)).p)))))).p ((QE.v (qe_lst (ql_cons (qv_ix ((qv_ix (qp_var 0) (qv_int).p)).p (qv_int).p) ql_nil)))).p)))

theorem m_law_whole (os : List O) (Q : O → List O → Prop) (h : sp_law_whole os Q) : Ends r_law_whole n_law_whole os Q := by
  obtain ⟨x, rfl, q⟩ := h
  cases x
  all_goals
    walk_at "wh"
    exact q
theorem fm_lt (a b : Int) (h : b ≠ 0) : (a.fmod b).natAbs < b.natAbs := by
  by_cases hb : 0 < b
  · have h1 := Int.fmod_lt_of_pos a hb
    have h2 := Int.fmod_nonneg_of_pos a hb
    omega
  · have hb2 : 0 < -b := by omega
    have h1 := Int.fmod_lt_of_pos (-a) hb2
    have h2 := Int.fmod_nonneg_of_pos (-a) hb2
    rw [Int.neg_fmod_neg] at h1 h2
    omega
theorem gcd_step (a b : Int) : Nat.gcd b.natAbs (a.fmod b).natAbs = Nat.gcd a.natAbs b.natAbs := by
  have e := Int.fmod_def a b
  have d1 : ∀ c : Int, c ∣ b → (c ∣ a.fmod b ↔ c ∣ a) := fun c hc => by
    rw [e]
    exact ⟨fun h => by
      have := Int.dvd_add h (Int.dvd_trans hc (Int.dvd_mul_right b (a.fdiv b)))
      rwa [Int.sub_add_cancel] at this, fun h => Int.dvd_sub h (Int.dvd_trans hc (Int.dvd_mul_right b (a.fdiv b)))⟩
  refine Nat.dvd_antisymm ?_ ?_
  · refine Nat.dvd_gcd ?_ (Nat.gcd_dvd_left _ _)
    have h1 : ((Nat.gcd b.natAbs (a.fmod b).natAbs : Nat) : Int) ∣ b := Int.ofNat_dvd_left.mpr (Nat.gcd_dvd_left _ _)
    exact Int.ofNat_dvd_left.mp ((d1 _ h1).mp (Int.ofNat_dvd_left.mpr (Nat.gcd_dvd_right _ _)))
  · refine Nat.dvd_gcd (Nat.gcd_dvd_right _ _) ?_
    have h1 : ((Nat.gcd a.natAbs b.natAbs : Nat) : Int) ∣ b := Int.ofNat_dvd_left.mpr (Nat.gcd_dvd_right _ _)
    exact Int.ofNat_dvd_left.mp ((d1 _ h1).mpr (Int.ofNat_dvd_left.mpr (Nat.gcd_dvd_left _ _)))
theorem m_law_factor (os : List O) (Q : O → List O → Prop) (h : sp_law_factor os Q) : Ends r_law_factor n_law_factor os Q := by
  obtain ⟨a, b, rfl, q⟩ := h
  walk_at "wh"
  refine ⟨fun m e => ∃ c d o, e = [some (.d (.int c)), some (.d (.int d)), o] ∧ Nat.gcd c.natAbs d.natAbs = Nat.gcd a.natAbs b.natAbs ∧ m = d.natAbs, ⟨_, a, b, none, rfl, rfl, rfl⟩, ?_⟩
  rintro m e ⟨c, d, o, rfl, hg, rfl⟩
  walk_at "wh"
  refine decI (fun h => ?_) (fun h => ?_)
  · have h : (!decide (d = 0)) = true := h
    have hd : d ≠ 0 := by simpa using h
    walk_at "go"
    · exact ⟨_, fm_lt c d hd, d, c.fmod d, _, rfl, by rw [gcd_step, hg], rfl⟩
    · exact hd
  · have h : ¬ (!decide (d = 0)) = true := h
    have hd : d = 0 := by simpa using h
    subst hd
    have e1 : (if c < 0 then -c else c) = ((Nat.gcd a.natAbs b.natAbs : Nat) : Int) := by
      rw [← hg]
      show _ = ((Nat.gcd c.natAbs 0 : Nat) : Int)
      rw [Nat.gcd_zero_right]
      split <;> omega
    walk_at "go"
    · rw [← e1] at q
      exact q
    · trivial
theorem m_law_quotient (os : List O) (Q : O → List O → Prop) (h : sp_law_quotient os Q) : Ends r_law_quotient n_law_quotient os Q := by
  obtain ⟨a, b, rfl, hb, hl, q⟩ := h
  have ok := gcd_ok a b hb hl
  rw [qD_divInt a b hb] at q
  walk_at "wh"
  refine ⟨a, b, rfl, ?_⟩
  walk_at "go"
  refine decI (fun h => ?_) (fun h => ?_)
  · rw [if_pos (of_decide_eq_true h)] at q ok
    have ez : (0 : Int) - ((Nat.gcd a.natAbs b.natAbs : Nat) : Int) = -((Nat.gcd a.natAbs b.natAbs : Nat) : Int) := Int.zero_sub _
    rw [← ez] at q ok
    walk_at "go"
    · exact q
    · exact (by decide : 2 ≤ sizeLine)
    · exact ok
    · exact ok
  · rw [if_neg (fun z => h (decide_eq_true z))] at q ok
    walk_at "go"
    · exact q
    · exact (by decide : 2 ≤ sizeLine)
    · exact ok
    · exact ok
theorem m_law_line (os : List O) (Q : O → List O → Prop) (h : sp_law_line os Q) : Ends r_law_line n_law_line os Q := by
  obtain ⟨s, rfl, hl, hp, hd, q⟩ := h
  have e2 : zD (lineL s) = zD (s.1.map fun p : Int => p * (s.2.den : Int)) ++ [.int s.2.num] := by
    unfold zD lineL
    rw [List.map_append]
    rfl
  walk_at "go"
  refine lc_mapE (fun e => e = [some (.d (sumD s)), none]) (ys := zD (s.1.map fun p : Int => p * (s.2.den : Int))) rfl (by simp [zD]) (by unfold zD; rw [List.length_map]; omega) ?_ ?_
  · rintro j x y k' _ rfl hx hy hk'
    obtain ⟨p, hpj, rfl⟩ := get_map hx
    have hy2 : y = .int (p * (s.2.den : Int)) := by
      unfold zD at hy
      rw [List.getElem?_map, List.getElem?_map, hpj] at hy
      exact (Option.some.inj hy).symm
    subst hy2
    walk_at "go"
    · exact hk' _ rfl
    · exact mul_fit (hp p (List.mem_of_getElem? hpj)) (show ((s.2.den : Nat) : Int).natAbs < 2 ^ 8000 by rw [Int.natAbs_natCast]; exact hd) (by omega) (by omega)
  rintro e rfl
  walk_at "go"
  · rw [e2] at q
    exact q
  · show (zD (s.1.map fun p : Int => p * (s.2.den : Int))).length + 1 ≤ sizeLine
    unfold zD
    rw [List.length_map, List.length_map]
    exact Nat.le_of_lt (Pf.small64 (by omega))
  · exact (by decide : 1 ≤ sizeLine)
theorem f_law_whole {P : Program} {w : World} {K : Fg} {mg : Str → Option Value} {base : Heap} {f : Addr} {fd : FuncData} (g : Gs K mg) (F : Fun K "_law_whole" "_law_whole" s_law_whole f fd) : FnOk P w K mg base CX0 1 f fd ["told"] (SpOf K sp_law_whole) :=
  fn_ok F sc_law_whole [] (fun cdv A outer s H E hr => q_law_whole g cdv A outer s H E hr) (by walk_at "len") (by walk_at "keep") m_law_whole
theorem mono_law_whole : sp_law_whole.Mono := by walk_at "mono"

theorem f_law_factor {P : Program} {w : World} {K : Fg} {mg : Str → Option Value} {base : Heap} {f : Addr} {fd : FuncData} (g : Gs K mg) (F : Fun K "_law_factor" "_law_factor" s_law_factor f fd) : FnOk P w K mg base CX0 1 f fd ["one", "two"] (SpOf K sp_law_factor) :=
  fn_ok F sc_law_factor [] (fun cdv A outer s H E hr => q_law_factor g cdv A outer s H E hr) (by walk_at "len") (by walk_at "keep") m_law_factor
theorem mono_law_factor : sp_law_factor.Mono := by walk_at "mono"

theorem f_law_quotient {P : Program} {w : World} {K : Fg} {mg : Str → Option Value} {base : Heap} {f : Addr} {fd : FuncData} (g : Gs K mg) (h_law_factor : Has P w K mg base "_law_factor" ["one", "two"] 1 sp_law_factor) (F : Fun K "_law_quotient" "_law_quotient" s_law_quotient f fd) : FnOk P w K mg base CX0 2 f fd ["top", "bottom"] (SpOf K sp_law_quotient) :=
  fn_ok F sc_law_quotient [] (fun cdv A outer s H E hr => q_law_quotient g h_law_factor cdv A outer s H E hr) (by walk_at "len") (by walk_at "keep") m_law_quotient
theorem mono_law_quotient : sp_law_quotient.Mono := by walk_at "mono"

theorem f_law_line {P : Program} {w : World} {K : Fg} {mg : Str → Option Value} {base : Heap} {f : Addr} {fd : FuncData} (g : Gs K mg) (F : Fun K "_law_line" "_law_line" s_law_line f fd) : FnOk P w K mg base CX0 1 f fd ["row"] (SpOf K sp_law_line) :=
  fn_ok F sc_law_line [] (fun cdv A outer s H E hr => q_law_line g cdv A outer s H E hr) (by walk_at "len") (by walk_at "keep") m_law_line
theorem mono_law_line : sp_law_line.Mono := by walk_at "mono"

end K82
set_option Elab.async false
set_option linter.all false
set_option maxRecDepth 100000
set_option maxHeartbeats 4000000
set_option exponentiation.threshold 20000
set_option pp.deepTerms false
set_option pp.maxSteps 500
namespace K82
open PySem PySem.Spec PyProof.Rows L2 Pf
local macro_rules | `(tactic| walk_at "go") => `(tactic| (conv => whnf) <;> repeat ((first | refine atE rfl ?_ | refine andR ?_ ?_); (conv => whnf)))
local macro_rules | `(tactic| walk_at "wh") => `(tactic| conv => whnf)
local macro_rules | `(tactic| walk_at "len") => `(tactic| (intro os Q h; (repeat (obtain ⟨_, h⟩ := h)); subst_vars; rfl))
local macro_rules | `(tactic| walk_at "keep") => `(tactic| (intro os Q h; (repeat (obtain ⟨_, h⟩ := h)); subst_vars; simp [keepOk]))
local macro_rules | `(tactic| walk_at "mono") => `(tactic| (intro os k k' f; repeat (first | exact f _ _ | refine Exists.imp fun _ => ?_ | refine And.imp_right ?_ | refine forall_imp fun _ => ?_)))
/-! the pool -/
theorem poolI {e : Pf.Env} {k : Nat} {f : List Int → Int → Int → Prop} {g : List Int} {c b : Int} (h : e[k]? = some (some (.res (poolR g c b)))) (q : f g c b) : ∃ g c b, e[k]? = some (some (.res (poolR g c b))) ∧ f g c b := ⟨g, c, b, h, q⟩
local macro_rules | `(tactic| walk_at "gp") => `(tactic| (conv => whnf) <;> repeat ((first | refine atE rfl ?_ | refine poolI rfl ?_ | refine andR ?_ ?_); (conv => whnf)))
/-- a pool: great numbers are not negative, the brew is small -/
structure PoolOk (g : List Int) (c b : Int) : Prop where
  great : ∀ x ∈ g, 0 ≤ x
  cur : 0 ≤ c
  brew : 0 ≤ b ∧ b < 2147482481
def sp_law_cask : FSp := fun os Q => ∃ script : List Int, os = [.d (.list (zD script))] ∧ script.length ≤ 63 ∧ ∀ g c b, PoolOk g c b → Q (.res (poolR g c b)) os
/-- a draw: some number below many, and some pool behind it -/
def sp_law_tap : FSp := fun os Q => ∃ (g : List Int) (c b n : Int), os = [.res (poolR g c b), .d (.int n)] ∧ PoolOk g c b ∧ n < 1000000 ∧ ∀ g' c' b' t, PoolOk g' c' b' → 0 ≤ t → (t < n ∨ (n < 2 ∧ t = 0)) → Q (.d (.int t)) [.res (poolR g' c' b'), .d (.int n)]
theorem mono_law_cask : sp_law_cask.Mono := fun os k k' f ⟨s, a1, a2, h⟩ => ⟨s, a1, a2, fun g c b ok => f _ _ (h g c b ok)⟩
theorem mono_law_tap : sp_law_tap.Mono := fun os k k' f ⟨g, c, b, n, a1, a2, a3, h⟩ => ⟨g, c, b, n, a1, a2, a3, fun g' c' b' t h1 h2 h3 => f _ _ (h g' c' b' t h1 h2 h3)⟩
/-! ### _law_cask -/
abbrev s_law_cask : Stmt := topS 58
abbrev n_law_cask : List Str := ["script", "brew", "great", "cell", "size"]
theorem sc_law_cask : FnScope n_law_cask ["script"] (defScope s_law_cask) := ⟨rfl, rfl, rfl, by decide +kernel, rfl, by decide +kernel, by decide +kernel⟩
def r_law_cask : RS := (rSeq (rSet 1 (rO (rC (.int 81799))))
  (rSeq (rSet 2 (rLst rNil))
  (rSeq (rFor (rFs (rD (rSl (rN 0) rNoI (rSoI (rC (.int 58)))))) (rGn 3) (rSeq (rSet 4 (rOp bMod (rP (rD (rCB fAbs (rACons (rP (rD (rCB fInt (rACons (rN 3) rANil)))) rANil)))) (rP (rD (rOp bShl (rP (rC (.int 1))) (rP (rC (.int 2000))))))))
  (rSeq (rSet 1 (rOp bMod (rP (rD (rCB fInt (rACons (rP (rD (rOp dAdd (rP (rD (rOp dAdd (rP (rD (rOp dMul (rN 1) (rP (rC (.int 46327)))))) (rP (rD (rOp bMod (rN 4) (rP (rC (.int 1000000579))))))))) (rP (rC (.int 5003)))))) rANil)))) (rP (rC (.int 2147482481)))))
  (rIfS (rCmp bGe (rN 4) (rP (rD (rOp bPow (rP (rC (.int 10))) (rP (rC (.int 18))))))) (rDrop (rApp 2 (rVar 4))) rNext))))
  (rRet (rPool (rRev (rN 2)) (rC (.int 0)) (rVar 1))))))
theorem q_law_cask {P : Program} {w : World} {K : Fg} {mg : Str → Option Value} {base : Heap} {f : Addr} (g : Gs K mg) (cdv : Value) (A : Around) (outer : List PySem.Env) (s : Shared) (H : Hp) (E : XK) (hr : Room 0 (A.deeper (envOfC "_law_cask" (defScope s_law_cask) s.heap.objs.size f cdv))) :
    QSs (cxOf CX0 P w K mg base n_law_cask "_law_cask" (defScope s_law_cask) f cdv A outer s H E).nox [] (defBody s_law_cask) r_law_cask :=
  (qss_cons (qs_set 1 sc_law_cask.nd (QV.o qv_int))
  (qss_cons (qs_set 2 sc_law_cask.nd (qe_lst ql_nil))
  (qss_cons (qs_for PassesOwn.never rfl (qf_seq (QE.v (qe_slice (qp_var 0) qi_none (qi_some qv_int)))) (qg_name 3 sc_law_cask.nd) (qss_cons (qs_set 4 sc_law_cask.nd (qe_mod ((QE.v (qe_abs g.abs (qa_cons ((QE.v (qe_int g.int (qa_cons (qp_var 3) qa_nil)))).p qa_nil)))).p ((QE.v (qe_shl (qv_int).p (qv_int).p))).p))
  (qss_cons (qs_set 1 sc_law_cask.nd (qe_mod ((QE.v (qe_int g.int (qa_cons ((QE.v (qe_add ((QE.v (qe_add ((QE.v (qe_mul (qp_var 1) (qv_int).p))).p ((QE.v (qe_mod (qp_var 4) (qv_int).p))).p))).p (qv_int).p))).p qa_nil)))).p (qv_int).p))
  (qss_one (qs_if (qt_ge (qp_var 4) ((QE.v (qe_pow (qv_int).p (qv_int).p))).p) (qss_one (qs_expr (qe_append 2 (qv_var 4)))) qss_nil)))))
  (qss_one (qs_ret (qe_pool (qe_rev (qp_var 2)) qv_int (qv_var 1)))))))

/-! ### _law_tap -/
abbrev s_law_tap : Stmt := topS 59
abbrev n_law_tap : List Str := ["pool", "many", "told"]
theorem sc_law_tap : FnScope n_law_tap ["pool", "many"] (defScope s_law_tap) := ⟨rfl, rfl, rfl, by decide +kernel, rfl, by decide +kernel, by decide +kernel⟩
def r_law_tap : RS := (rSeq (rIfS (rCmp bLt (rN 1) (rP (rC (.int 2)))) (rRet (rO (rC (.int 0)))) rNext)
  (rSeq (rIfS (rAnd (rCmp (dEq false) (rP (rPool1 0)) (rP (rC (.int 0)))) (rCmp bGt (rP (rPoolLen 0)) (rP (rC (.int 0))))) (rPoolSet1 0 (rD (rPoolPop 0))) rNext)
  (rSeq (rIfS (rCmp bGt (rP (rPool1 0)) (rP (rC (.int 0)))) (rSeq (rSet 2 (rOp bMod (rP (rD (rCB fInt (rACons (rP (rPool1 0)) rANil)))) (rN 1)))
  (rSeq (rPoolSet1 0 (rD (rOp bFdiv (rP (rPool1 0)) (rN 1))))
  (rRet (rO (rVar 2))))) rNext)
  (rSeq (rPoolSet2 0 (rD (rOp bMod (rP (rD (rCB fInt (rACons (rP (rD (rOp dAdd (rP (rD (rOp dMul (rP (rPool2 0)) (rP (rC (.int 41546)))))) (rP (rC (.int 37)))))) rANil)))) (rP (rC (.int 2147482481))))))
  (rRet (rOp bMod (rP (rD (rCB fInt (rACons (rP (rD (rOp bFdiv (rP (rPool2 0)) (rP (rC (.int 39)))))) rANil)))) (rN 1)))))))
theorem q_law_tap {P : Program} {w : World} {K : Fg} {mg : Str → Option Value} {base : Heap} {f : Addr} (g : Gs K mg) (cdv : Value) (A : Around) (outer : List PySem.Env) (s : Shared) (H : Hp) (E : XK) (hr : Room 0 (A.deeper (envOfC "_law_tap" (defScope s_law_tap) s.heap.objs.size f cdv))) :
    QSs (cxOf CX0 P w K mg base n_law_tap "_law_tap" (defScope s_law_tap) f cdv A outer s H E).nox [0] (defBody s_law_tap) r_law_tap :=
  (qss_cons (qs_if (qt_lt (qp_var 1) (qv_int).p) (qss_one (qs_ret (QV.o qv_int))) qss_nil)
  (qss_cons (qs_if (QW.t (qw_and (qt_eq hr.units ((qv_pool1 0)).p (qv_int).p) (qw_and1 (qt_gt ((qv_poollen 0 g.len)).p (qv_int).p)))) (qss_one (qs_poolset1 0 (QE.v (qe_poolpop 0)))) qss_nil)
  (qss_cons (qs_if (qt_gt ((qv_pool1 0)).p (qv_int).p) (qss_cons (qs_set 2 sc_law_tap.nd (qe_mod ((QE.v (qe_int g.int (qa_cons ((qv_pool1 0)).p qa_nil)))).p (qp_var 1)))
  (qss_cons (qs_poolset1 0 (QE.v (qe_fdiv ((qv_pool1 0)).p (qp_var 1))))
  (qss_one (qs_ret (QV.o (qv_var 2)))))) qss_nil)
  (qss_cons (qs_poolset2 0 (QE.v (qe_mod ((QE.v (qe_int g.int (qa_cons ((QE.v (qe_add ((QE.v (qe_mul ((qv_pool2 0)).p (qv_int).p))).p (qv_int).p))).p qa_nil)))).p (qv_int).p)))
  (qss_one (qs_ret (qe_mod ((QE.v (qe_int g.int (qa_cons ((QE.v (qe_fdiv ((qv_pool2 0)).p (qv_int).p))).p qa_nil)))).p (qp_var 1))))))))

theorem fm_pos {a b : Int} (h : 0 < b) : 0 ≤ a.fmod b ∧ a.fmod b < b := ⟨Int.fmod_nonneg_of_pos a h, Int.fmod_lt_of_pos a h⟩
theorem fd_pos {a b : Int} (ha : 0 ≤ a) (hb : 0 < b) : 0 ≤ a.fdiv b := by
  rw [Int.fdiv_eq_ediv_of_nonneg _ (by omega)]
  exact Int.ediv_nonneg ha (by omega)
theorem m_law_tap (os : List O) (Q : O → List O → Prop) (h : sp_law_tap os Q) : Ends r_law_tap n_law_tap os Q := by
  obtain ⟨g0, c0, b0, n, rfl, ok, hn, q⟩ := h
  walk_at "wh"
  refine decI (fun h => ?_) (fun h => ?_)
  · have h : n < 2 := of_decide_eq_true h
    walk_at "wh"
    exact q g0 c0 b0 0 ok (by omega) (.inr ⟨h, rfl⟩)
  · have h2 : 2 ≤ n := by
      have h : ¬ decide (n < 2) = true := h
      simpa using h
    -- what stands behind the first test
    have draw : ∀ g c b, PoolOk g c b → (rSeq (rIfS (rCmp bGt (rP (rPool1 0)) (rP (rC (.int 0)))) (rSeq (rSet 2 (rOp bMod (rP (rD (rCB fInt (rACons (rP (rPool1 0)) rANil)))) (rN 1)))
  (rSeq (rPoolSet1 0 (rD (rOp bFdiv (rP (rPool1 0)) (rN 1))))
  (rRet (rO (rVar 2))))) rNext)
  (rSeq (rPoolSet2 0 (rD (rOp bMod (rP (rD (rCB fInt (rACons (rP (rD (rOp dAdd (rP (rD (rOp dMul (rP (rPool2 0)) (rP (rC (.int 41546)))))) (rP (rC (.int 37)))))) rANil)))) (rP (rC (.int 2147482481))))))
  (rRet (rOp bMod (rP (rD (rCB fInt (rACons (rP (rD (rOp bFdiv (rP (rPool2 0)) (rP (rC (.int 39)))))) rANil)))) (rN 1))))) { nx := fun e => finL e [.res (poolR g0 c0 b0), .d (.int n)] (Q (.d .none)), rt := fun o e => finL e [.res (poolR g0 c0 b0), .d (.int n)] (Q o), bk := fun _ => False, ct := fun _ => False } [some (.res (poolR g c b)), some (.d (.int n)), none] := by
      intro g c b ok
      walk_at "gp"
      refine decI (fun h => ?_) (fun h => ?_)
      · have hc : 0 < c := of_decide_eq_true h
        walk_at "gp"
        · exact q g (c.fdiv n) b (c.fmod n) ⟨ok.great, fd_pos ok.cur (by omega), ok.brew⟩ (fm_pos (by omega)).1 (.inl (fm_pos (by omega)).2)
        · exact cdiv_of (k := 20) (by omega) (by omega) (by omega)
        · show n ≠ 0
          omega
      · walk_at "gp"
        · refine q g c ((b * 41546 + 37).fmod 2147482481) _ ⟨ok.great, ok.cur, (fm_pos (by omega))⟩ (fm_pos (by omega)).1 (.inl (fm_pos (by omega)).2)
        all_goals first
          | exact cdiv_of (k := 20) (by omega) (by omega) (by omega)
          | exact mul_fit (k := 40) (l := 20) (by have := ok.brew; omega) (by omega) (by omega) (by omega)
          | (show n ≠ 0; omega)
          | (show (2147482481 : Int) ≠ 0; omega)
    walk_at "gp"
    refine decI (fun h => ?_) (fun h => ?_)
    · walk_at "gp"
      refine decI (fun h => ?_) (fun h => ?_)
      · have h : (0 : Int) < ((g0.length : Nat) : Int) := of_decide_eq_true h
        rcases List.eq_nil_or_concat g0 with e | ⟨g', x, e⟩
        · rw [e] at h
          simp at h
        · rw [List.concat_eq_append] at e
          subst e
          walk_at "gp"
          refine ⟨g', x, rfl, ?_⟩
          walk_at "wh"
          refine poolI rfl ?_
          exact draw g' x b0 ⟨fun y hy => ok.great y (List.mem_append_left _ hy), ok.great x (by simp), ok.brew⟩
      · exact draw g0 c0 b0 ok
    · exact draw g0 c0 b0 ok
theorem m_law_cask (os : List O) (Q : O → List O → Prop) (h : sp_law_cask os Q) : Ends r_law_cask n_law_cask os Q := by
  obtain ⟨script, rfl, hl, q⟩ := h
  have ec : cut (zD script) none (some (58 : Int)) = zD (script.take 58) := by
    rw [show (58 : Int) = ((58 : Nat) : Int) from rfl, cut_take]
    unfold zD
    rw [List.map_take]
  have big : (0 : Int) < 1 * 2 ^ (2000 : Int).toNat := by
    rw [Int.one_mul]
    exact Int.pow_pos (by decide)
  walk_at "go"
  · rw [ec]
    refine ⟨fun j e => ∃ b g o3 o4, e = [some (.d (.list (zD script))), some (.d (.int b)), some (.own (zD g)), o3, o4] ∧ (0 ≤ b ∧ b < 2147482481) ∧ (∀ x ∈ g, 0 ≤ x) ∧ g.length ≤ j, ⟨81799, [], none, none, rfl, by omega, by simp, Nat.zero_le _⟩, ?_, ?_⟩
    · rintro j x e hx ⟨b, g, o3, o4, rfl, hb, hg, hlen⟩
      obtain ⟨n, hn, rfl⟩ := get_map hx
      have hj : j < 58 := by
        have h1 := (List.getElem?_eq_some_iff.mp hn).1
        rw [List.length_take] at h1
        omega
      have hs : 0 ≤ (if n < 0 then -n else n).fmod (1 * 2 ^ (2000 : Int).toNat) := Int.fmod_nonneg_of_pos _ big
      have hb2 := fm_pos (a := b * 46327 + ((if n < 0 then -n else n).fmod (1 * 2 ^ (2000 : Int).toNat)).fmod 1000000579 + 5003) (b := 2147482481) (by omega)
      walk_at "go"
      · refine decI (fun h => ?_) (fun h => ?_)
        · walk_at "go"
          · refine ⟨(b * 46327 + ((if n < 0 then -n else n).fmod (1 * 2 ^ (2000 : Int).toNat)).fmod 1000000579 + 5003).fmod 2147482481, g ++ [((if n < 0 then -n else n).fmod (1 * 2 ^ (2000 : Int).toNat))], some (.d (.int n)), some (.d (.int ((if n < 0 then -n else n).fmod (1 * 2 ^ (2000 : Int).toNat)))), ?_, hb2, ?_, by rw [List.length_append, List.length_singleton]; omega⟩
            · unfold zD
              rw [List.map_append]
              rfl
            · intro y hy
              rcases List.mem_append.mp hy with hy | hy
              · exact hg y hy
              · rw [List.mem_singleton.mp hy]
                exact hs
          · show (zD g).length < sizeLine
            unfold zD
            rw [List.length_map]
            exact Pf.small64 (by omega)
        · walk_at "wh"
          exact ⟨(b * 46327 + ((if n < 0 then -n else n).fmod (1 * 2 ^ (2000 : Int).toNat)).fmod 1000000579 + 5003).fmod 2147482481, g, some (.d (.int n)), some (.d (.int ((if n < 0 then -n else n).fmod (1 * 2 ^ (2000 : Int).toNat)))), rfl, hb2, hg, by omega⟩
      · exact ⟨by omega, by decide⟩
      · show (2147482481 : Int) ≠ 0
        omega
      · show (1000000579 : Int) ≠ 0
        omega
      · exact mul_fit (k := 40) (l := 20) (by omega) (by omega) (by omega) (by omega)
      · show (1 * 2 ^ (2000 : Int).toNat : Int) ≠ 0
        exact Int.ne_of_gt big
      · exact ⟨by omega, by decide⟩
      all_goals trivial
    · rintro e ⟨b, g, o3, o4, rfl, hb, hg, hlen⟩
      walk_at "go"
      refine ⟨g.reverse, ?_, ?_⟩
      · show intsOf (zD g).reverse = _
        unfold zD
        rw [← List.map_reverse]
        exact intsOf_map _
      walk_at "wh"
      exact q g.reverse 0 b ⟨fun x hx => hg x (List.mem_reverse.mp hx), by omega, hb⟩
  · exact Nat.zero_le _
theorem f_law_cask {P : Program} {w : World} {K : Fg} {mg : Str → Option Value} {base : Heap} {f : Addr} {fd : FuncData} (g : Gs K mg) (F : Fun K "_law_cask" "_law_cask" s_law_cask f fd) : FnOk P w K mg base CX0 1 f fd ["script"] (SpOf K sp_law_cask) :=
  fn_ok F sc_law_cask [] (fun cdv A outer s H E hr => q_law_cask g cdv A outer s H E hr) (by walk_at "len") (by walk_at "keep") m_law_cask

theorem f_law_tap {P : Program} {w : World} {K : Fg} {mg : Str → Option Value} {base : Heap} {f : Addr} {fd : FuncData} (g : Gs K mg) (F : Fun K "_law_tap" "_law_tap" s_law_tap f fd) : FnOk P w K mg base CX0 1 f fd ["pool", "many"] (SpOf K sp_law_tap) :=
  fn_ok F sc_law_tap [0] (fun cdv A outer s H E hr => q_law_tap g cdv A outer s H E hr) (by walk_at "len") (by walk_at "keep") m_law_tap

end K82
set_option Elab.async false
set_option linter.all false
set_option maxRecDepth 100000
set_option maxHeartbeats 4000000
set_option exponentiation.threshold 20000
set_option pp.deepTerms false
set_option pp.maxSteps 500
namespace K82
open PySem PySem.Spec PyProof.Rows L2 Pf
local macro_rules | `(tactic| walk_at "go") => `(tactic| (conv => whnf) <;> repeat ((first | refine atE rfl ?_ | refine andR ?_ ?_); (conv => whnf)))
local macro_rules | `(tactic| walk_at "wh") => `(tactic| conv => whnf)
local macro_rules | `(tactic| walk_at "len") => `(tactic| (intro os Q h; (repeat (obtain ⟨_, h⟩ := h)); subst_vars; rfl))
local macro_rules | `(tactic| walk_at "keep") => `(tactic| (intro os Q h; (repeat (obtain ⟨_, h⟩ := h)); subst_vars; simp [keepOk]))
local macro_rules | `(tactic| walk_at "mono") => `(tactic| (intro os k k' f; repeat (first | exact f _ _ | refine Exists.imp fun _ => ?_ | refine And.imp_right ?_ | refine forall_imp fun _ => ?_)))
/-! equal things are the same -/
def sp_law_same : FSp := fun os Q => ∃ (x : D) (n : Nat), os = [.d x, .d x] ∧ Pln x n ∧ n ≤ 1000 ∧ Q (.d (.bool true)) os
def pairD (z : D) : D := .tuple [z, z]
/-! ### _law_same -/
abbrev s_law_same : Stmt := topS 61
abbrev n_law_same : List Str := ["told", "due", "todo", "one", "two", "at"]
theorem sc_law_same : FnScope n_law_same ["told", "due"] (defScope s_law_same) := ⟨rfl, rfl, rfl, by decide +kernel, rfl, by decide +kernel, by decide +kernel⟩
def r_law_same : RS := (rSeq (rSet 2 (rLst (rCons (rTup (rCons (rVar 0) (rCons (rVar 1) rNil))) rNil)))
  (rSeq (rWhile (rCmp bGt (rP (rD (rCB fLen (rACons (rN 2) rANil)))) (rP (rC (.int 0)))) (rSeq (rAsgT (rD (rPop0 2)) (rGt 2 (rGcons (rGn 3) (rGcons (rGn 4) rGnil))))
  (rIfS (rTb (rIsi isTuple (rN 4))) (rSeq (rIfS (rOr (rNot (rTb (rIsi isTuple (rN 3)))) (rCmp (dEq true) (rP (rD (rCB fLen (rACons (rN 3) rANil)))) (rP (rD (rCB fLen (rACons (rN 4) rANil)))))) (rRet (rO (rC (.bool false)))) rNext)
  (rDrop (rExt 2 (rD (rLc (rRng1 (rD (rCB fLen (rACons (rN 4) rANil)))) (rGn 5) rYes (rTup (rCons (rD (rOp dIx (rN 3) (rN 5))) (rCons (rD (rOp dIx (rN 4) (rN 5))) rNil))) [5]))))) (rIfS (rTb (rIsi isList (rN 4))) (rSeq (rIfS (rOr (rNot (rTb (rIsi isList (rN 3)))) (rCmp (dEq true) (rP (rD (rCB fLen (rACons (rN 3) rANil)))) (rP (rD (rCB fLen (rACons (rN 4) rANil)))))) (rRet (rO (rC (.bool false)))) rNext)
  (rDrop (rExt 2 (rD (rLc (rRng1 (rD (rCB fLen (rACons (rN 4) rANil)))) (rGn 5) rYes (rTup (rCons (rD (rOp dIx (rN 3) (rN 5))) (rCons (rD (rOp dIx (rN 4) (rN 5))) rNil))) [5]))))) (rIfS (rCmp (dIsN false) (rN 4) (rP (rC .none))) (rIfS (rCmp (dIsN true) (rN 3) (rP (rC .none))) (rRet (rO (rC (.bool false)))) rNext) (rIfS (rTb (rIsi isBool (rN 4))) (rIfS (rOr (rNot (rTb (rIsi isBool (rN 3)))) (rCmp (dEq true) (rN 3) (rN 4))) (rRet (rO (rC (.bool false)))) rNext) (rIfS (rTb (rIsi isInt (rN 4))) (rIfS (rOr (rNot (rTb (rD (rCall sp_law_whole (rACons (rN 3) rANil))))) (rCmp (dEq true) (rN 3) (rN 4))) (rRet (rO (rC (.bool false)))) rNext) (rIfS (rOr (rNot (rTb (rIsi isStr (rN 3)))) (rCmp (dEq true) (rN 3) (rN 4))) (rRet (rO (rC (.bool false)))) rNext))))))))
  (rRet (rO (rC (.bool true))))))
theorem q_law_same {P : Program} {w : World} {K : Fg} {mg : Str → Option Value} {base : Heap} {f : Addr} (g : Gs K mg) (h_law_whole : Has P w K mg base "_law_whole" ["told"] 1 sp_law_whole) (cdv : Value) (A : Around) (outer : List PySem.Env) (s : Shared) (H : Hp) (E : XK) (hr : Room 1 (A.deeper (envOfC "_law_same" (defScope s_law_same) s.heap.objs.size f cdv))) :
    QSs (cxOf CX0 P w K mg base n_law_same "_law_same" (defScope s_law_same) f cdv A outer s H E).nox [] (defBody s_law_same) r_law_same :=
  (qss_cons (qs_set 2 sc_law_same.nd (qe_lst (ql_cons (qv_tup (ql_cons (qv_var 0) (ql_cons (qv_var 1) ql_nil))) ql_nil)))
  (qss_cons (qs_while PassesOwn.never (qt_gt ((QE.v (qe_len g.len (qa_cons (qp_var 2) qa_nil)))).p (qv_int).p) (qss_cons (qs_asgT (QE.v (qe_pop 2)) (qg_tup 2 rfl (qgs_cons (qg_name 3 sc_law_same.nd) (qgs_cons (qg_name 4 sc_law_same.nd) qgs_nil))))
  (qss_one (qs_if (qt_call (qv_isi_tuple g.isinstance g.tuple (qp_var 4))) (qss_cons (qs_if (QW.t (qw_or (qt_not (qt_call (qv_isi_tuple g.isinstance g.tuple (qp_var 3)))) (qw_or1 (qt_ne hr.units ((QE.v (qe_len g.len (qa_cons (qp_var 3) qa_nil)))).p ((QE.v (qe_len g.len (qa_cons (qp_var 4) qa_nil)))).p)))) (qss_one (qs_ret (QV.o qv_bl))) qss_nil)
  (qss_one (qs_expr (qe_extend 2 (QE.v (qe_lc (own := [("at", 5)]) rfl sc_law_same.nd (qf_range1 g.range (QE.v (qe_len g.len (qa_cons (qp_var 4) qa_nil)))) (blkOk_by (by rfl)) (fun _ _ _ _ _ => (qg_name 5 sc_law_same.nd)) (fun _ _ _ _ _ => qts_nil) (fun _ _ _ _ _ => (qv_tup (ql_cons (qv_ix (qp_var 3) (qp_var 5)) (ql_cons (qv_ix (qp_var 4) (qp_var 5)) ql_nil)))))))))) (qss_one (qs_if (qt_call (qv_isi_list g.isinstance g.list (qp_var 4))) (qss_cons (qs_if (QW.t (qw_or (qt_not (qt_call (qv_isi_list g.isinstance g.list (qp_var 3)))) (qw_or1 (qt_ne hr.units ((QE.v (qe_len g.len (qa_cons (qp_var 3) qa_nil)))).p ((QE.v (qe_len g.len (qa_cons (qp_var 4) qa_nil)))).p)))) (qss_one (qs_ret (QV.o qv_bl))) qss_nil)
  (qss_one (qs_expr (qe_extend 2 (QE.v (qe_lc (own := [("at", 5)]) rfl sc_law_same.nd (qf_range1 g.range (QE.v (qe_len g.len (qa_cons (qp_var 4) qa_nil)))) (blkOk_by (by rfl)) (fun _ _ _ _ _ => (qg_name 5 sc_law_same.nd)) (fun _ _ _ _ _ => qts_nil) (fun _ _ _ _ _ => (qv_tup (ql_cons (qv_ix (qp_var 3) (qp_var 5)) (ql_cons (qv_ix (qp_var 4) (qp_var 5)) ql_nil)))))))))) (qss_one (qs_if (qt_isN (qp_var 4) (qv_non).p) (qss_one (qs_if (qt_notN (qp_var 3) (qv_non).p) (qss_one (qs_ret (QV.o qv_bl))) qss_nil)) (qss_one (qs_if (qt_call (qv_isi_bool g.isinstance g.bool (qp_var 4))) (qss_one (qs_if (QW.t (qw_or (qt_not (qt_call (qv_isi_bool g.isinstance g.bool (qp_var 3)))) (qw_or1 (qt_ne hr.units (qp_var 3) (qp_var 4))))) (qss_one (qs_ret (QV.o qv_bl))) qss_nil)) (qss_one (qs_if (qt_call (qv_isi_int g.isinstance g.int (qp_var 4))) (qss_one (qs_if (QW.t (qw_or (qt_not (qt_call (QE.v (qe_call h_law_whole (hr.mono (by decide)) (qa_cons (qp_var 3) qa_nil))))) (qw_or1 (qt_ne hr.units (qp_var 3) (qp_var 4))))) (qss_one (qs_ret (QV.o qv_bl))) qss_nil)) (qss_one (qs_if (QW.t (qw_or (qt_not (qt_call (qv_isi_str g.isinstance g.str (qp_var 3)))) (qw_or1 (qt_ne hr.units (qp_var 3) (qp_var 4))))) (qss_one (qs_ret (QV.o qv_bl))) qss_nil))))))))))))))
  (qss_one (qs_ret (QV.o qv_bl)))))

theorem small5 {n : Nat} (h : n ≤ 100000) : n < sizeLine := by rw [sizeLine_eq]; omega
theorem m_law_same (os : List O) (Q : O → List O → Prop) (h : sp_law_same os Q) : Ends r_law_same n_law_same os Q := by
  obtain ⟨x, N, rfl, px, hN, q⟩ := h
  walk_at "go"
  · refine ⟨fun m e => ∃ zs o3 o4, e = [some (.d x), some (.d x), some (.own (zs.map pairD)), o3, o4, none] ∧ PlnAll zs m ∧ m ≤ N, ⟨N, [x], none, none, rfl, (by have := PlnAll.cons px .nil; rwa [Nat.add_zero] at this), Nat.le_refl _⟩, ?_⟩
    rintro m e ⟨zs, o3, o4, rfl, hp, hm⟩
    walk_at "go"
    refine decI (fun h => ?_) (fun h => ?_)
    · have h : (0 : Int) < ((zs.map pairD).length : Nat) := of_decide_eq_true h
      rcases List.eq_nil_or_concat zs with e | ⟨zs', z, e⟩
      · rw [e] at h
        simp at h
      rw [List.concat_eq_append] at e
      subst e
      obtain ⟨a, b, ha, hb, em⟩ := hp.last
      have hbp := hb.pos
      have ed : ((zs' ++ [z]).map pairD) = zs'.map pairD ++ [pairD z] := by rw [List.map_append]; rfl
      have el : ((zs' ++ [z]).map pairD)[((zs' ++ [z]).map pairD).length - 1]? = some (pairD z) := by rw [ed]; simp
      have edl : ((zs' ++ [z]).map pairD).dropLast = zs'.map pairD := by rw [ed]; exact List.dropLast_concat
      walk_at "wh"
      refine ⟨pairD z, el, ?_⟩
      rw [edl]
      walk_at "go"
      · cases hb with
        | non =>
          walk_at "wh"
          exact ⟨a, by omega, zs', some (.d .none), some (.d .none), rfl, ha, by omega⟩
        | bl b =>
          have e0 : PyData.eqv (.bool b) (.bool b) = true := by cases b <;> rfl
          walk_at "go"
          · refine decI (fun h2 => ?_) (fun h2 => ?_)
            · have h2 : (!PyData.eqv (.bool b) (.bool b)) = true := h2
              rw [e0] at h2
              cases h2
            · walk_at "wh"
              exact ⟨a, by omega, zs', some (.d (.bool b)), some (.d (.bool b)), rfl, ha, by omega⟩
          · rfl
          · rfl
        | int i =>
          walk_at "go"
          refine ⟨.int i, rfl, ?_⟩
          walk_at "go"
          refine decI (fun h2 => ?_) (fun h2 => ?_)
          · have h2 : (!decide (i = i)) = true := h2
            simp at h2
          · walk_at "wh"
            exact ⟨a, by omega, zs', some (.d (.int i)), some (.d (.int i)), rfl, ha, by omega⟩
        | str y hy =>
          have e0 : PyData.eqv (.str y) (.str y) = true := by rw [PyData.eqv]; simp
          walk_at "go"
          · refine decI (fun h2 => ?_) (fun h2 => ?_)
            · have h2 : (!PyData.eqv (.str y) (.str y)) = true := h2
              rw [e0] at h2
              cases h2
            · walk_at "wh"
              exact ⟨a, by omega, zs', some (.d (.str y)), some (.d (.str y)), rfl, ha, by omega⟩
          · exact hy
          · exact hy
        | @lst xs n hz =>
          have lx := hz.len
          walk_at "go"
          refine decI (fun h2 => ?_) (fun h2 => ?_)
          · have h2 : (!decide (((xs.length : Nat) : Int) = ((xs.length : Nat) : Int))) = true := h2
            simp at h2
          · walk_at "go"
            · refine lc_mapE (fun e => e = [some (.d x), some (.d x), some (.own (zs'.map pairD)), some (.d (.list xs)), some (.d (.list xs)), none]) (ys := xs.map pairD) rfl (by rw [rngD_len, List.length_map]; omega) (by rw [rngD_len]; omega) ?_ ?_
              · rintro j u y k' _ rfl hx hy hk'
                obtain ⟨ex, hj⟩ := rngD_at hx
                have hj : j < xs.length := by omega
                have ez : (0 + (j : Nat) : Int) = ((j : Nat) : Int) := Int.zero_add _
                rw [ez] at ex
                subst ex
                obtain ⟨z, hzj, rfl⟩ := get_map hy
                walk_at "go"
                refine ⟨_, atI_mem hzj, ?_⟩
                walk_at "go"
                refine ⟨_, atI_mem hzj, ?_⟩
                walk_at "go"
                · exact hk' _ rfl
                · exact (by decide : 2 ≤ sizeLine)
              rintro e rfl
              walk_at "go"
              · refine ⟨a + n, by omega, zs' ++ xs, some (.d (.list xs)), some (.d (.list xs)), ?_, ha.append hz, by omega⟩
                rw [List.map_append]
                rfl
              · rw [List.length_map, List.length_map]
                have := ha.len
                exact Nat.le_of_lt (small5 (by omega))
            · omega
            · omega
        | @tup xs n hz =>
          have lx := hz.len
          walk_at "go"
          refine decI (fun h2 => ?_) (fun h2 => ?_)
          · have h2 : (!decide (((xs.length : Nat) : Int) = ((xs.length : Nat) : Int))) = true := h2
            simp at h2
          · walk_at "go"
            · refine lc_mapE (fun e => e = [some (.d x), some (.d x), some (.own (zs'.map pairD)), some (.d (.tuple xs)), some (.d (.tuple xs)), none]) (ys := xs.map pairD) rfl (by rw [rngD_len, List.length_map]; omega) (by rw [rngD_len]; omega) ?_ ?_
              · rintro j u y k' _ rfl hx hy hk'
                obtain ⟨ex, hj⟩ := rngD_at hx
                have hj : j < xs.length := by omega
                have ez : (0 + (j : Nat) : Int) = ((j : Nat) : Int) := Int.zero_add _
                rw [ez] at ex
                subst ex
                obtain ⟨z, hzj, rfl⟩ := get_map hy
                walk_at "go"
                refine ⟨_, atI_mem hzj, ?_⟩
                walk_at "go"
                refine ⟨_, atI_mem hzj, ?_⟩
                walk_at "go"
                · exact hk' _ rfl
                · exact (by decide : 2 ≤ sizeLine)
              rintro e rfl
              walk_at "go"
              · refine ⟨a + n, by omega, zs' ++ xs, some (.d (.tuple xs)), some (.d (.tuple xs)), ?_, ha.append hz, by omega⟩
                rw [List.map_append]
                rfl
              · rw [List.length_map, List.length_map]
                have := ha.len
                exact Nat.le_of_lt (small5 (by omega))
            · omega
            · omega
      all_goals rfl
    · walk_at "go"
      exact q
  · exact (by decide : 1 ≤ sizeLine)
  · exact (by decide : 2 ≤ sizeLine)
theorem f_law_same {P : Program} {w : World} {K : Fg} {mg : Str → Option Value} {base : Heap} {f : Addr} {fd : FuncData} (g : Gs K mg) (h_law_whole : Has P w K mg base "_law_whole" ["told"] 1 sp_law_whole) (F : Fun K "_law_same" "_law_same" s_law_same f fd) : FnOk P w K mg base CX0 2 f fd ["told", "due"] (SpOf K sp_law_same) :=
  fn_ok F sc_law_same [] (fun cdv A outer s H E hr => q_law_same g h_law_whole cdv A outer s H E hr) (by walk_at "len") (by walk_at "keep") m_law_same
theorem mono_law_same : sp_law_same.Mono := by walk_at "mono"

end K82
set_option Elab.async false
set_option linter.all false
set_option maxRecDepth 100000
set_option maxHeartbeats 4000000
set_option exponentiation.threshold 20000
set_option pp.deepTerms false
set_option pp.maxSteps 500
namespace K82
open PySem PySem.Spec PyProof.Rows L2 Pf
local macro_rules | `(tactic| walk_at "go") => `(tactic| (conv => whnf) <;> repeat ((first | refine atE rfl ?_ | refine andR ?_ ?_); (conv => whnf)))
local macro_rules | `(tactic| walk_at "wh") => `(tactic| conv => whnf)
local macro_rules | `(tactic| walk_at "len") => `(tactic| (intro os Q h; (repeat (obtain ⟨_, h⟩ := h)); subst_vars; rfl))
local macro_rules | `(tactic| walk_at "keep") => `(tactic| (intro os Q h; (repeat (obtain ⟨_, h⟩ := h)); subst_vars; simp [keepOk]))
local macro_rules | `(tactic| walk_at "mono") => `(tactic| (intro os k k' f; repeat (first | exact f _ _ | refine Exists.imp fun _ => ?_ | refine And.imp_right ?_ | refine forall_imp fun _ => ?_)))
/-! the law's own elimination -/
def freshL (line lead : List Int) (s : Nat) : List Int := List.zipWith (fun a b => a * lead.getD s 0 - b * line.getD s 0) line lead
def ridL (line lead : List Int) (s : Nat) : List Int := if line.getD s 0 = 0 then line else if 1 < gcdAll (freshL line lead s) then (freshL line lead s).map fun c => c.fdiv (gcdAll (freshL line lead s)) else freshL line lead s
def sp_law_rid : FSp := fun os Q => ∃ (line lead : List Int) (s : Nat), os = [.d (.list (zD line)), .d (.list (zD lead)), .d (.int (s : Nat))] ∧ line.length = lead.length ∧ s < line.length ∧ line.length ≤ 400 ∧ (∀ x ∈ line, x.natAbs < 2 ^ 9000) ∧ (∀ x ∈ lead, x.natAbs < 2 ^ 9000) ∧ gcdAll (freshL line lead s) < 2 ^ 9000 ∧
  Q (.d (.list (zD (ridL line lead s)))) os
/-! ### _law_rid -/
abbrev s_law_rid : Stmt := topS 65
abbrev n_law_rid : List Str := ["line", "lead", "spot", "fresh", "one", "two", "common", "cell"]
theorem sc_law_rid : FnScope n_law_rid ["line", "lead", "spot"] (defScope s_law_rid) := ⟨rfl, rfl, rfl, by decide +kernel, rfl, by decide +kernel, by decide +kernel⟩
def r_law_rid : RS := (rSeq (rIfS (rCmp (dEq false) (rP (rD (rOp dIx (rN 0) (rN 2)))) (rP (rC (.int 0)))) (rRet (rO (rVar 0))) rNext)
  (rSeq (rSet 3 (rLcT (rZip (rVar 0) (rVar 1)) 2 (rGcons (rGn 4) (rGcons (rGn 5) rGnil)) rYes (rD (rOp bSub (rP (rD (rOp dMul (rN 4) (rP (rD (rOp dIx (rN 1) (rN 2))))))) (rP (rD (rOp dMul (rN 5) (rP (rD (rOp dIx (rN 0) (rN 2))))))))) [4, 5]))
  (rSeq (rSet 6 (rO (rC (.int 0))))
  (rSeq (rFor (rFs (rVar 3)) (rGn 7) (rSet 6 (rCall sp_law_factor (rACons (rN 6) (rACons (rN 7) rANil)))))
  (rSeq (rIfS (rCmp bGt (rN 6) (rP (rC (.int 1)))) (rSet 3 (rLc (rFs (rVar 3)) (rGn 7) rYes (rD (rOp bFdiv (rN 7) (rN 6))) [7])) rNext)
  (rRet (rO (rVar 3))))))))
theorem q_law_rid {P : Program} {w : World} {K : Fg} {mg : Str → Option Value} {base : Heap} {f : Addr} (g : Gs K mg) (h_law_factor : Has P w K mg base "_law_factor" ["one", "two"] 1 sp_law_factor) (cdv : Value) (A : Around) (outer : List PySem.Env) (s : Shared) (H : Hp) (E : XK) (hr : Room 1 (A.deeper (envOfC "_law_rid" (defScope s_law_rid) s.heap.objs.size f cdv))) :
    QSs (cxOf CX0 P w K mg base n_law_rid "_law_rid" (defScope s_law_rid) f cdv A outer s H E).nox [] (defBody s_law_rid) r_law_rid :=
  (qss_cons (qs_if (qt_eq hr.units ((qv_ix (qp_var 0) (qp_var 2))).p (qv_int).p) (qss_one (qs_ret (QV.o (qv_var 0)))) qss_nil)
  (qss_cons (qs_setLcT (own := [("one", 4), ("two", 5)]) 3 2 rfl sc_law_rid.nd (qf_zip g.zip (qv_var 0) (qv_var 1)) (blkOk_by (by rfl)) (fun _ _ _ _ _ => (qgs_cons (qg_name 4 sc_law_rid.nd) (qgs_cons (qg_name 5 sc_law_rid.nd) qgs_nil))) (fun _ _ _ _ _ => qts_nil) (fun _ _ _ _ _ => (QE.v (qe_sub ((QE.v (qe_mul (qp_var 4) ((qv_ix (qp_var 1) (qp_var 2))).p))).p ((QE.v (qe_mul (qp_var 5) ((qv_ix (qp_var 0) (qp_var 2))).p))).p))))
  (qss_cons (qs_set 6 sc_law_rid.nd (QV.o qv_int))
  (qss_cons (qs_for PassesOwn.never rfl (qf_seq (qv_var 3)) (qg_name 7 sc_law_rid.nd) (qss_one (qs_set 6 sc_law_rid.nd (qe_call h_law_factor (hr.mono (by decide)) (qa_cons (qp_var 6) (qa_cons (qp_var 7) qa_nil))))))
  (qss_cons (qs_if (qt_gt (qp_var 6) (qv_int).p) (qss_one (qs_setLc (own := [("cell", 7)]) 3 rfl sc_law_rid.nd (qf_seq (qv_var 3)) (blkOk_by (by rfl)) (fun _ _ _ _ _ => (qg_name 7 sc_law_rid.nd)) (fun _ _ _ _ _ => qts_nil) (fun _ _ _ _ _ => (QE.v (qe_fdiv (qp_var 7) (qp_var 6)))))) qss_nil)
  (qss_one (qs_ret (QV.o (qv_var 3)))))))))

theorem m_law_rid (os : List O) (Q : O → List O → Prop) (h : sp_law_rid os Q) : Ends r_law_rid n_law_rid os Q := by
  obtain ⟨line, lead, s, rfl, hl, hs, h4, hb1, hb2, hg, q⟩ := h
  obtain ⟨l, hls, hlm⟩ := getAt hs
  obtain ⟨d, hds, hdm⟩ := getAt (show s < lead.length by omega)
  have el : line.getD s 0 = l := by rw [List.getD_eq_getElem?_getD, hls]; rfl
  have ed : lead.getD s 0 = d := by rw [List.getD_eq_getElem?_getD, hds]; rfl
  unfold ridL at q
  rw [el] at q
  walk_at "go"
  refine ⟨_, atI_map (f := PyData.int) hls, ?_⟩
  walk_at "wh"
  refine decI (fun h => ?_) (fun h => ?_)
  · have h : decide (l = 0) = true := h
    rw [if_pos (of_decide_eq_true h)] at q
    walk_at "wh"
    exact q
  · have h : ¬ decide (l = 0) = true := h
    rw [if_neg (fun z => h (decide_eq_true z))] at q
    have lf : (freshL line lead s).length = line.length := by
      unfold freshL
      rw [List.length_zipWith]
      omega
    walk_at "go"
    refine lcT_mapE (fun e => e = [some (.d (.list (zD line))), some (.d (.list (zD lead))), some (.d (.int (s : Nat))), none, none, none, none, none]) (ys := zD (freshL line lead s)) rfl (by
      show (zipD (line.map PyData.int) (lead.map PyData.int)).length = _
      unfold zD
      rw [zipD_len, List.length_map, lf]
      omega) (by
      show (zipD (line.map PyData.int) (lead.map PyData.int)).length ≤ 1000
      rw [zipD_len]
      omega) ?_ ?_
    · rintro j xs y k' _ rfl hx hy hk'
      obtain ⟨a, b, ha, hb, rfl⟩ := zipD_at (f := PyData.int) (g := PyData.int) hx
      have hy2 : y = .int (a * d - b * l) := by
        unfold zD freshL at hy
        rw [List.getElem?_map, List.getElem?_zipWith, ha, hb, ed, el] at hy
        exact (Option.some.inj hy).symm
      subst hy2
      refine ⟨rfl, ?_⟩
      walk_at "go"
      refine ⟨_, atI_map (f := PyData.int) hds, ?_⟩
      walk_at "go"
      · refine ⟨_, atI_map (f := PyData.int) hls, ?_⟩
        walk_at "go"
        · exact hk' _ rfl
        · exact mul_fit (hb2 b (List.mem_of_getElem? hb)) (hb1 l hlm) (by omega) (by omega)
      · exact mul_fit (hb1 a (List.mem_of_getElem? ha)) (hb2 d hdm) (by omega) (by omega)
    rintro e rfl
    generalize freshL line lead s = fr at *
    walk_at "go"
    refine ⟨fun j e => ∃ o7, e = [some (.d (.list (zD line))), some (.d (.list (zD lead))), some (.d (.int (s : Nat))), some (.d (.list (zD fr))), none, none, some (.d (.int (gcdAll (fr.take j)))), o7], ⟨none, rfl⟩, ?_, ?_⟩
    · rintro j x e hx ⟨o7, rfl⟩
      obtain ⟨n, hn, rfl⟩ := get_map hx
      walk_at "wh"
      refine ⟨_, n, rfl, ?_⟩
      walk_at "wh"
      refine ⟨some (.d (.int n)), ?_⟩
      unfold gcdAll
      rw [foldl_take _ _ _ _ _ hn]
      rfl
    rintro e ⟨o7, rfl⟩
    have el2 : fr.take (zD fr).length = fr := by
      unfold zD
      rw [List.length_map, List.take_length]
    rw [el2]
    walk_at "go"
    refine decI (fun h => ?_) (fun h => ?_)
    · have h : decide ((1 : Int) < ((gcdAll fr : Nat) : Int)) = true := h
      have h1 : 1 < gcdAll fr := by
        have := of_decide_eq_true h
        omega
      rw [if_pos h1] at q
      walk_at "go"
      refine lc_mapE (fun e => ∃ o7, e = [some (.d (.list (zD line))), some (.d (.list (zD lead))), some (.d (.int (s : Nat))), some (.d (.list (zD fr))), none, none, some (.d (.int (gcdAll fr))), o7]) (ys := zD (fr.map fun c => c.fdiv (gcdAll fr))) ⟨_, rfl⟩ (by simp [zD]) (by unfold zD; rw [List.length_map]; omega) ?_ ?_
      · rintro j x y k' _ ⟨o7, rfl⟩ hx hy hk'
        obtain ⟨n, hn, rfl⟩ := get_map hx
        have hy2 : y = .int (n.fdiv (gcdAll fr)) := by
          unfold zD at hy
          rw [List.getElem?_map, List.getElem?_map, hn] at hy
          exact (Option.some.inj hy).symm
        subst hy2
        walk_at "go"
        · exact hk' _ ⟨_, rfl⟩
        · exact cdiv_of (k := 9000) (by omega) (by rw [Int.natAbs_natCast]; exact hg) (by omega)
      rintro e ⟨o7, rfl⟩
      walk_at "go"
      exact q
    · have h : ¬ decide ((1 : Int) < ((gcdAll fr : Nat) : Int)) = true := h
      have h1 : ¬ 1 < gcdAll fr := fun z => h (decide_eq_true (by omega))
      rw [if_neg h1] at q
      walk_at "go"
      exact q
theorem f_law_rid {P : Program} {w : World} {K : Fg} {mg : Str → Option Value} {base : Heap} {f : Addr} {fd : FuncData} (g : Gs K mg) (h_law_factor : Has P w K mg base "_law_factor" ["one", "two"] 1 sp_law_factor) (F : Fun K "_law_rid" "_law_rid" s_law_rid f fd) : FnOk P w K mg base CX0 2 f fd ["line", "lead", "spot"] (SpOf K sp_law_rid) :=
  fn_ok F sc_law_rid [] (fun cdv A outer s H E hr => q_law_rid g h_law_factor cdv A outer s H E hr) (by walk_at "len") (by walk_at "keep") m_law_rid
theorem mono_law_rid : sp_law_rid.Mono := by walk_at "mono"

end K82
set_option Elab.async false
set_option linter.all false
set_option maxRecDepth 100000
set_option maxHeartbeats 4000000
set_option exponentiation.threshold 20000
set_option pp.deepTerms false
set_option pp.maxSteps 500
namespace K82
open PySem PySem.Spec PyProof.Rows L2 Pf
local macro_rules | `(tactic| walk_at "go") => `(tactic| (conv => whnf) <;> repeat ((first | refine atE rfl ?_ | refine andR ?_ ?_); (conv => whnf)))
local macro_rules | `(tactic| walk_at "wh") => `(tactic| conv => whnf)
local macro_rules | `(tactic| walk_at "len") => `(tactic| (intro os Q h; (repeat (obtain ⟨_, h⟩ := h)); subst_vars; rfl))
local macro_rules | `(tactic| walk_at "keep") => `(tactic| (intro os Q h; (repeat (obtain ⟨_, h⟩ := h)); subst_vars; simp [keepOk]))
local macro_rules | `(tactic| walk_at "mono") => `(tactic| (intro os k k' f; repeat (first | exact f _ _ | refine Exists.imp fun _ => ?_ | refine And.imp_right ?_ | refine forall_imp fun _ => ?_)))
/-! the law's own sum of a line -/
def sumL (line : List Int) (due : Int) : Sm := (line.map fun n => n.fdiv (sgnGcd line), Rat.divInt due (sgnGcd line))
def sp_law_sum : FSp := fun os Q => ∃ (line : List Int) (due : Int) (W : D), os = [.d W] ∧ W = .list (zD (line ++ [due])) ∧ line.length ≤ 400 ∧ (∃ x ∈ line, x ≠ 0) ∧ gcdAll line < 2 ^ 9000 ∧ Q (.d (sumD (sumL line due))) os
/-! ### _law_sum -/
abbrev s_law_sum : Stmt := topS 68
abbrev n_law_sum : List Str := ["line", "parts", "common", "part", "first"]
theorem sc_law_sum : FnScope n_law_sum ["line"] (defScope s_law_sum) := ⟨rfl, rfl, rfl, by decide +kernel, rfl, by decide +kernel, by decide +kernel⟩
def r_law_sum : RS := (rSeq (rSet 1 (rSl (rN 0) rNoI (rSoI (rD (rOp bSub (rP (rD (rCB fLen (rACons (rN 0) rANil)))) (rP (rC (.int 1))))))))
  (rSeq (rSet 2 (rO (rC (.int 0))))
  (rSeq (rFor (rFs (rVar 1)) (rGn 3) (rSet 2 (rCall sp_law_factor (rACons (rN 2) (rACons (rN 3) rANil)))))
  (rSeq (rSet 4 (rO (rD (rOp dIx (rP (rD (rLc (rFs (rVar 1)) (rGn 3) (rCmp (dEq true) (rN 3) (rP (rC (.int 0)))) (rVar 3) [3]))) (rP (rC (.int 0)))))))
  (rSeq (rIfS (rCmp bLt (rN 4) (rP (rC (.int 0)))) (rSet 2 (rOp bSub (rP (rC (.int 0))) (rN 2))) rNext)
  (rRet (rO (rTup (rCons (rD (rCB fTuple (rACons (rP (rD (rLc (rFs (rVar 1)) (rGn 3) rYes (rD (rOp bFdiv (rN 3) (rN 2))) [3]))) rANil))) (rCons (rD (rCall sp_law_quotient (rACons (rP (rD (rOp dIx (rN 0) (rP (rD (rOp bSub (rP (rD (rCB fLen (rACons (rN 0) rANil)))) (rP (rC (.int 1))))))))) (rACons (rN 2) rANil)))) rNil))))))))))
theorem q_law_sum {P : Program} {w : World} {K : Fg} {mg : Str → Option Value} {base : Heap} {f : Addr} (g : Gs K mg) (h_law_factor : Has P w K mg base "_law_factor" ["one", "two"] 1 sp_law_factor) (h_law_quotient : Has P w K mg base "_law_quotient" ["top", "bottom"] 2 sp_law_quotient) (cdv : Value) (A : Around) (outer : List PySem.Env) (s : Shared) (H : Hp) (E : XK) (hr : Room 2 (A.deeper (envOfC "_law_sum" (defScope s_law_sum) s.heap.objs.size f cdv))) :
    QSs (cxOf CX0 P w K mg base n_law_sum "_law_sum" (defScope s_law_sum) f cdv A outer s H E).nox [] (defBody s_law_sum) r_law_sum :=
  (qss_cons (qs_set 1 sc_law_sum.nd (qe_slice (qp_var 0) qi_none (qi_some (QE.v (qe_sub ((QE.v (qe_len g.len (qa_cons (qp_var 0) qa_nil)))).p (qv_int).p)))))
  (qss_cons (qs_set 2 sc_law_sum.nd (QV.o qv_int))
  (qss_cons (qs_for PassesOwn.never rfl (qf_seq (qv_var 1)) (qg_name 3 sc_law_sum.nd) (qss_one (qs_set 2 sc_law_sum.nd (qe_call h_law_factor (hr.mono (by decide)) (qa_cons (qp_var 2) (qa_cons (qp_var 3) qa_nil))))))
  (qss_cons (qs_set 4 sc_law_sum.nd (QV.o (qv_ix ((QE.v (qe_lc (own := [("part", 3)]) rfl sc_law_sum.nd (qf_seq (qv_var 1)) (blkOk_by (by rfl)) (fun _ _ _ _ _ => (qg_name 3 sc_law_sum.nd)) (fun _ _ _ _ _ => (qts_one (qt_ne hr.units (qp_var 3) (qv_int).p))) (fun _ _ _ _ _ => (qv_var 3))))).p (qv_int).p)))
  (qss_cons (qs_if (qt_lt (qp_var 4) (qv_int).p) (qss_one (qs_set 2 sc_law_sum.nd (qe_sub (qv_int).p (qp_var 2)))) qss_nil)
  (qss_one (qs_ret (QV.o (qv_tup (ql_cons (QE.v (qe_tuple g.tuple (qa_cons ((QE.v (qe_lc (own := [("part", 3)]) rfl sc_law_sum.nd (qf_seq (qv_var 1)) (blkOk_by (by rfl)) (fun _ _ _ _ _ => (qg_name 3 sc_law_sum.nd)) (fun _ _ _ _ _ => qts_nil) (fun _ _ _ _ _ => (QE.v (qe_fdiv (qp_var 3) (qp_var 2))))))).p qa_nil))) (ql_cons (QE.v (qe_call h_law_quotient (hr.mono (by decide)) (qa_cons ((qv_ix (qp_var 0) ((QE.v (qe_sub ((QE.v (qe_len g.len (qa_cons (qp_var 0) qa_nil)))).p (qv_int).p))).p)).p (qa_cons (qp_var 2) qa_nil)))) ql_nil)))))))))))

theorem m_law_sum (os : List O) (Q : O → List O → Prop) (h : sp_law_sum os Q) : Ends r_law_sum n_law_sum os Q := by
  obtain ⟨line, due, W, rfl, rfl, h4, hne, hg, q⟩ := h
  have ez : zD (line ++ [due]) = zD line ++ [.int due] := by
    unfold zD
    rw [List.map_append]
    rfl
  have lz : (zD (line ++ [due])).length = line.length + 1 := by
    unfold zD
    rw [List.length_map, List.length_append, List.length_singleton]
  have ec : cut (zD (line ++ [due])) none (some (((zD (line ++ [due])).length : Int) - 1)) = zD line := by
    rw [lz, show (((line.length + 1 : Nat) : Int) - 1) = ((line.length : Nat) : Int) by omega, cut_take, ez, List.take_left' (by unfold zD; rw [List.length_map])]
  have ec2 : cut (zD (line ++ [due])) none (some ((fun i j : Int => i - j) ((zD (line ++ [due])).length : Nat) 1)) = zD line := ec
  have g0 : gcdAll line ≠ 0 := by
    obtain ⟨x, hx, h0⟩ := hne
    intro z
    have := gcd_dvd line x hx
    rw [z] at this
    exact h0 (Int.zero_dvd.mp this)
  have s0 : sgnGcd line ≠ 0 := fun z => g0 (by rw [← sgn_abs, z]; rfl)
  walk_at "go"
  rw [ec2]
  refine ⟨fun j e => ∃ o3, e = [some (.d (.list (zD (line ++ [due])))), some (.d (.list (zD line))), some (.d (.int (gcdAll (line.take j)))), o3, none], ⟨none, rfl⟩, ?_, ?_⟩
  · rintro j x e hx ⟨o3, rfl⟩
    obtain ⟨n, hn, rfl⟩ := get_map hx
    walk_at "wh"
    refine ⟨_, n, rfl, ?_⟩
    walk_at "wh"
    refine ⟨some (.d (.int n)), ?_⟩
    unfold gcdAll
    rw [foldl_take _ _ _ _ _ hn]
    rfl
  rintro e ⟨o3, rfl⟩
  have el2 : line.take (zD line).length = line := by
    unfold zD
    rw [List.length_map, List.take_length]
  rw [el2]
  walk_at "go"
  have lenS : (zD line).length ≤ 1000 := by
    unfold zD
    rw [List.length_map]
    omega
  let nz : D → Bool := fun d => match d with
    | .int n => decide (n ≠ 0)
    | _ => false
  refine lc_filterE (p := nz) (g := id) (fun e => ∃ o3, e = [some (.d (.list (zD (line ++ [due])))), some (.d (.list (zD line))), some (.d (.int (gcdAll line))), o3, none]) ⟨_, rfl⟩ lenS ?_ ?_
  · rintro j x k1 k2 _ ⟨o3, rfl⟩ hx h1 h2
    obtain ⟨n, hn, rfl⟩ := get_map hx
    walk_at "go"
    refine decI (fun h => ?_) (fun h => ?_)
    · walk_at "wh"
      have h : (!decide (n = 0)) = true := h
      refine h1 (by simpa [nz] using h) _ ⟨_, rfl⟩
    · walk_at "wh"
      have h : ¬ (!decide (n = 0)) = true := h
      refine h2 (by simpa [nz] using h) _ ⟨_, rfl⟩
  rintro e ⟨o3, rfl⟩
  have hfil : ((zD line).filter nz).map id = zD (line.filter fun n => decide (n ≠ 0)) := by
    unfold zD
    rw [List.map_id, List.filter_map]
    rfl
  rw [hfil]
  have hnl : (line.filter fun n => decide (n ≠ 0)) ≠ [] := by
    obtain ⟨x, hx, h0⟩ := hne
    exact List.ne_nil_of_mem (a := x) (List.mem_filter.mpr ⟨hx, by simpa using h0⟩)
  have hfirst : atI (zD (line.filter fun n => decide (n ≠ 0))) ((0 : Nat) : Int) = some (.int (firstNZ line)) := by
    unfold firstNZ
    generalize (line.filter fun n => decide (n ≠ 0)) = l at hnl
    cases l with
    | nil => exact absurd rfl hnl
    | cons a l => exact atI_map (f := PyData.int) rfl
  walk_at "wh"
  refine ⟨_, hfirst, ?_⟩
  have lenI : atI (zD (line ++ [due])) (((zD (line ++ [due])).length : Nat) - 1 : Int) = some (.int due) := by
    rw [lz, show (((line.length + 1 : Nat) : Int) - 1) = ((line.length : Nat) : Int) by omega, ez]
    refine atI_mem ?_
    unfold zD
    rw [List.getElem?_append_right (by rw [List.length_map]; exact Nat.le_refl _), List.length_map, Nat.sub_self]
    rfl
  have glt : (sgnGcd line).natAbs < 2 ^ 9000 := by rw [sgn_abs]; exact hg
  have fin : ∀ (e : Pf.Env) (o4 : Option O), e = [some (.d (.list (zD (line ++ [due])))), some (.d (.list (zD line))), some (.d (.int (sgnGcd line))), o3, o4] →
      rRet (rO (rTup (rCons (rD (rCB fTuple (rACons (rP (rD (rLc (rFs (rVar 1)) (rGn 3) rYes (rD (rOp bFdiv (rN 3) (rN 2))) [3]))) rANil))) (rCons (rD (rCall sp_law_quotient (rACons (rP (rD (rOp dIx (rN 0) (rP (rD (rOp bSub (rP (rD (rCB fLen (rACons (rN 0) rANil)))) (rP (rC (.int 1))))))))) (rACons (rN 2) rANil)))) rNil)))) { nx := fun e => finL e [.d (.list (zD (line ++ [due])))] (Q (.d .none)), rt := fun o e => finL e [.d (.list (zD (line ++ [due])))] (Q o), bk := fun _ => False, ct := fun _ => False } e := by
    rintro e o4 rfl
    walk_at "go"
    refine lc_mapE (fun e => ∃ o3, e = [some (.d (.list (zD (line ++ [due])))), some (.d (.list (zD line))), some (.d (.int (sgnGcd line))), o3, o4]) (ys := zD (line.map fun n => n.fdiv (sgnGcd line))) ⟨_, rfl⟩ (by simp [zD]) lenS ?_ ?_
    · rintro j x y k' _ ⟨o3, rfl⟩ hx hy hk'
      obtain ⟨n, hn, rfl⟩ := get_map hx
      have hy2 : y = .int (n.fdiv (sgnGcd line)) := by
        unfold zD at hy
        rw [List.getElem?_map, List.getElem?_map, hn] at hy
        exact (Option.some.inj hy).symm
      subst hy2
      walk_at "go"
      · exact hk' _ ⟨_, rfl⟩
      · exact cdiv_of (k := 9000) s0 glt (by omega)
    rintro e ⟨o3, rfl⟩
    walk_at "go"
    refine ⟨_, lenI, ?_⟩
    walk_at "wh"
    refine ⟨due, sgnGcd line, rfl, s0, glt, ?_⟩
    walk_at "go"
    · exact q
    · exact (by decide : 2 ≤ sizeLine)
  walk_at "wh"
  refine decI (fun h => ?_) (fun h => ?_)
  · have h : firstNZ line < 0 := of_decide_eq_true h
    refine fin [some (.d (.list (zD (line ++ [due])))), some (.d (.list (zD line))), some (.d (.int (0 - (gcdAll line : Int)))), o3, some (.d (.int (firstNZ line)))] (some (.d (.int (firstNZ line)))) ?_
    unfold sgnGcd
    rw [if_pos h, Int.zero_sub]
  · have h : ¬ firstNZ line < 0 := fun z => h (decide_eq_true z)
    refine fin [some (.d (.list (zD (line ++ [due])))), some (.d (.list (zD line))), some (.d (.int (gcdAll line : Int))), o3, some (.d (.int (firstNZ line)))] (some (.d (.int (firstNZ line)))) ?_
    unfold sgnGcd
    rw [if_neg h]
theorem f_law_sum {P : Program} {w : World} {K : Fg} {mg : Str → Option Value} {base : Heap} {f : Addr} {fd : FuncData} (g : Gs K mg) (h_law_factor : Has P w K mg base "_law_factor" ["one", "two"] 1 sp_law_factor) (h_law_quotient : Has P w K mg base "_law_quotient" ["top", "bottom"] 2 sp_law_quotient) (F : Fun K "_law_sum" "_law_sum" s_law_sum f fd) : FnOk P w K mg base CX0 3 f fd ["line"] (SpOf K sp_law_sum) :=
  fn_ok F sc_law_sum [] (fun cdv A outer s H E hr => q_law_sum g h_law_factor h_law_quotient cdv A outer s H E hr) (by walk_at "len") (by walk_at "keep") m_law_sum
theorem mono_law_sum : sp_law_sum.Mono := by walk_at "mono"

end K82
set_option Elab.async false
set_option linter.all false
set_option maxRecDepth 100000
set_option maxHeartbeats 4000000
set_option exponentiation.threshold 20000
set_option pp.deepTerms false
set_option pp.maxSteps 500
namespace K82
open PySem PySem.Spec PyProof.Rows L2 Pf
local macro_rules | `(tactic| walk_at "go") => `(tactic| (conv => whnf) <;> repeat ((first | refine atE rfl ?_ | refine andR ?_ ?_); (conv => whnf)))
local macro_rules | `(tactic| walk_at "wh") => `(tactic| conv => whnf)
local macro_rules | `(tactic| walk_at "len") => `(tactic| (intro os Q h; (repeat (obtain ⟨_, h⟩ := h)); subst_vars; rfl))
local macro_rules | `(tactic| walk_at "keep") => `(tactic| (intro os Q h; (repeat (obtain ⟨_, h⟩ := h)); subst_vars; simp [keepOk]))
local macro_rules | `(tactic| walk_at "mono") => `(tactic| (intro os k k' f; repeat (first | exact f _ _ | refine Exists.imp fun _ => ?_ | refine And.imp_right ?_ | refine forall_imp fun _ => ?_)))
/-! the law's own addition -/
def stepL (t : Int × Int) (p : Int × Rat) : Int × Int := if p.1 = 0 then t else (t.1 * p.2.den + p.1 * p.2.num * t.2, t.2 * p.2.den)
def addedL (ps : List (Int × Rat)) : Int × Int := ps.foldl stepL (0, 1)
structure AddLOk (parts : List Int) (qs : List Rat) : Prop where
  pre : ∀ j, (addedL ((List.zip parts qs).take j)).1.natAbs < 2 ^ 8000 ∧ (addedL ((List.zip parts qs).take j)).2.natAbs < 2 ^ 8000
  ne : (addedL (List.zip parts qs)).2 ≠ 0
  parts : ∀ p ∈ parts, p.natAbs < 2 ^ 8000
  qs : ∀ x ∈ qs, Fit 8000 x
def sp_law_added : FSp := fun os Q => ∃ (parts : List Int) (qs : List Rat) (W : D), os = [.d W, .d (.list (qs.map qD))] ∧ W = .list (zD parts) ∧ AddLOk parts qs ∧ Q (.d (qD (Rat.divInt (addedL (List.zip parts qs)).1 (addedL (List.zip parts qs)).2))) os
/-! ### _law_added -/
abbrev s_law_added : Stmt := topS 64
abbrev n_law_added : List Str := ["parts", "quotients", "top", "bottom", "part", "one"]
theorem sc_law_added : FnScope n_law_added ["parts", "quotients"] (defScope s_law_added) := ⟨rfl, rfl, rfl, by decide +kernel, rfl, by decide +kernel, by decide +kernel⟩
def r_law_added : RS := (rSeq (rSet 2 (rO (rC (.int 0))))
  (rSeq (rSet 3 (rO (rC (.int 1))))
  (rSeq (rForT (rZip (rVar 0) (rVar 1)) 2 (rGcons (rGn 4) (rGcons (rGn 5) rGnil)) (rIfS (rCmp (dEq true) (rN 4) (rP (rC (.int 0)))) (rSeq (rSet 2 (rOp dAdd (rP (rD (rOp dMul (rN 2) (rP (rD (rOp dIx (rN 5) (rP (rC (.int 1))))))))) (rP (rD (rOp dMul (rP (rD (rOp dMul (rN 4) (rP (rD (rOp dIx (rN 5) (rP (rC (.int 0))))))))) (rN 3))))))
  (rSet 3 (rOp dMul (rN 3) (rP (rD (rOp dIx (rN 5) (rP (rC (.int 1))))))))) rNext))
  (rRet (rCall sp_law_quotient (rACons (rN 2) (rACons (rN 3) rANil)))))))
theorem q_law_added {P : Program} {w : World} {K : Fg} {mg : Str → Option Value} {base : Heap} {f : Addr} (g : Gs K mg) (h_law_quotient : Has P w K mg base "_law_quotient" ["top", "bottom"] 2 sp_law_quotient) (cdv : Value) (A : Around) (outer : List PySem.Env) (s : Shared) (H : Hp) (E : XK) (hr : Room 2 (A.deeper (envOfC "_law_added" (defScope s_law_added) s.heap.objs.size f cdv))) :
    QSs (cxOf CX0 P w K mg base n_law_added "_law_added" (defScope s_law_added) f cdv A outer s H E).nox [] (defBody s_law_added) r_law_added :=
  (qss_cons (qs_set 2 sc_law_added.nd (QV.o qv_int))
  (qss_cons (qs_set 3 sc_law_added.nd (QV.o qv_int))
  (qss_cons (qs_forT 2 PassesOwn.never rfl (qf_zip g.zip (qv_var 0) (qv_var 1)) (qgs_cons (qg_name 4 sc_law_added.nd) (qgs_cons (qg_name 5 sc_law_added.nd) qgs_nil)) (qss_one (qs_if (qt_ne hr.units (qp_var 4) (qv_int).p) (qss_cons (qs_set 2 sc_law_added.nd (qe_add ((QE.v (qe_mul (qp_var 2) ((qv_ix (qp_var 5) (qv_int).p)).p))).p ((QE.v (qe_mul ((QE.v (qe_mul (qp_var 4) ((qv_ix (qp_var 5) (qv_int).p)).p))).p (qp_var 3)))).p))
  (qss_one (qs_set 3 sc_law_added.nd (qe_mul (qp_var 3) ((qv_ix (qp_var 5) (qv_int).p)).p)))) qss_nil)))
  (qss_one (qs_ret (qe_call h_law_quotient (hr.mono (by decide)) (qa_cons (qp_var 2) (qa_cons (qp_var 3) qa_nil))))))))

theorem m_law_added (os : List O) (Q : O → List O → Prop) (h : sp_law_added os Q) : Ends r_law_added n_law_added os Q := by
  obtain ⟨parts, qs, W, rfl, rfl, ok, q⟩ := h
  have lz : (List.zip parts qs).take (zipD (zD parts) (qs.map qD)).length = List.zip parts qs := by
    refine List.take_of_length_le ?_
    show (List.zip parts qs).length ≤ (zipD (parts.map PyData.int) (qs.map qD)).length
    rw [zipD_len, List.length_zip]
    exact Nat.le_refl _
  walk_at "go"
  refine ⟨fun j e => ∃ o4 o5, e = [some (.d (.list (zD parts))), some (.d (.list (qs.map qD))), some (.d (.int (addedL ((List.zip parts qs).take j)).1)), some (.d (.int (addedL ((List.zip parts qs).take j)).2)), o4, o5], ⟨none, none, rfl⟩, ?_, ?_⟩
  · rintro j xs e hx ⟨o4, o5, rfl⟩
    obtain ⟨a, b, ha, hb, rfl⟩ := zipD_at (f := PyData.int) hx
    have stp : addedL ((List.zip parts qs).take (j + 1)) = stepL (addedL ((List.zip parts qs).take j)) (a, b) := zip_take_succ stepL _ _ _ _ _ _ ha hb
    have pj := ok.pre j
    have fa := ok.parts a (List.mem_of_getElem? ha)
    have fb := ok.qs b (List.mem_of_getElem? hb)
    refine ⟨rfl, ?_⟩
    walk_at "go"
    refine decI (fun h => ?_) (fun h => ?_)
    · have h : (!decide (a = 0)) = true := h
      have h0 : a ≠ 0 := by simpa using h
      unfold stepL at stp
      rw [if_neg h0] at stp
      walk_at "go"
      · rw [stp]
        exact ⟨some (.d (.int a)), some (.d (qD b)), rfl⟩
      all_goals first
        | exact mul_fit (k := 8000) (l := 8000) (by omega) (by rw [Int.natAbs_natCast]; exact fb.2) (by omega) (by omega)
        | exact mul_fit (k := 8000) (l := 8000) fa fb.1 (by omega) (by omega)
        | exact mul_fit (k := 16000) (l := 8000) (by rw [Int.natAbs_mul]; exact mul_lt fa fb.1) (by omega) (by omega) (by omega)
    · have h : ¬ (!decide (a = 0)) = true := h
      have h0 : a = 0 := by simpa using h
      unfold stepL at stp
      rw [if_pos h0] at stp
      walk_at "wh"
      rw [stp]
      exact ⟨_, _, rfl⟩
  · rintro e ⟨o4, o5, rfl⟩
    rw [lz]
    walk_at "wh"
    have pl := ok.pre (zipD (zD parts) (qs.map qD)).length
    rw [lz] at pl
    exact ⟨_, _, rfl, ok.ne, Nat.lt_of_lt_of_le pl.2 (Nat.pow_le_pow_right (by decide) (by decide)), q⟩
theorem f_law_added {P : Program} {w : World} {K : Fg} {mg : Str → Option Value} {base : Heap} {f : Addr} {fd : FuncData} (g : Gs K mg) (h_law_quotient : Has P w K mg base "_law_quotient" ["top", "bottom"] 2 sp_law_quotient) (F : Fun K "_law_added" "_law_added" s_law_added f fd) : FnOk P w K mg base CX0 3 f fd ["parts", "quotients"] (SpOf K sp_law_added) :=
  fn_ok F sc_law_added [] (fun cdv A outer s H E hr => q_law_added g h_law_quotient cdv A outer s H E hr) (by walk_at "len") (by walk_at "keep") m_law_added
theorem mono_law_added : sp_law_added.Mono := by walk_at "mono"

end K82
set_option Elab.async false
set_option linter.all false
set_option maxRecDepth 100000
set_option maxHeartbeats 4000000
set_option exponentiation.threshold 20000
set_option pp.deepTerms false
set_option pp.maxSteps 500
namespace K82
open PySem PySem.Spec PyProof.Rows L2 Pf
local macro_rules | `(tactic| walk_at "go") => `(tactic| (conv => whnf) <;> repeat ((first | refine atE rfl ?_ | refine andR ?_ ?_); (conv => whnf)))
local macro_rules | `(tactic| walk_at "wh") => `(tactic| conv => whnf)
local macro_rules | `(tactic| walk_at "len") => `(tactic| (intro os Q h; (repeat (obtain ⟨_, h⟩ := h)); subst_vars; rfl))
local macro_rules | `(tactic| walk_at "keep") => `(tactic| (intro os Q h; (repeat (obtain ⟨_, h⟩ := h)); subst_vars; simp [keepOk]))
local macro_rules | `(tactic| walk_at "mono") => `(tactic| (intro os k k' f; repeat (first | exact f _ _ | refine Exists.imp fun _ => ?_ | refine And.imp_right ?_ | refine forall_imp fun _ => ?_)))
/-! factor * row + more * other -/
def timesP (s u : Sm) (f g : Int) : List Int := List.zipWith (fun a b => f * a + g * b) s.1 u.1
def timesD (s u : Sm) (f g : Int) : Rat := Rat.divInt (addedL (List.zip [f, g] [s.2, u.2])).1 (addedL (List.zip [f, g] [s.2, u.2])).2
def sp_law_times : FSp := fun os Q => ∃ (s u : Sm) (f g : Int), os = [.d (sumD s), .d (.int f), .d (sumD u), .d (.int g)] ∧ s.1.length = u.1.length ∧ s.1.length ≤ 400 ∧ (∀ x ∈ s.1, x.natAbs < 2 ^ 8000) ∧ (∀ x ∈ u.1, x.natAbs < 2 ^ 8000) ∧ AddLOk [f, g] [s.2, u.2] ∧ Q (.d (sumD (timesP s u f g, timesD s u f g))) os
/-! ### _law_times -/
abbrev s_law_times : Stmt := topS 72
abbrev n_law_times : List Str := ["row", "factor", "other", "more", "parts", "a", "b"]
theorem sc_law_times : FnScope n_law_times ["row", "factor", "other", "more"] (defScope s_law_times) := ⟨rfl, rfl, rfl, by decide +kernel, rfl, by decide +kernel, by decide +kernel⟩
def r_law_times : RS := (rSeq (rSet 4 (rCB fTuple (rACons (rP (rD (rLcT (rZip (rD (rOp dIx (rN 0) (rP (rC (.int 0))))) (rD (rOp dIx (rN 2) (rP (rC (.int 0)))))) 2 (rGcons (rGn 5) (rGcons (rGn 6) rGnil)) rYes (rD (rOp dAdd (rP (rD (rOp dMul (rN 1) (rN 5)))) (rP (rD (rOp dMul (rN 3) (rN 6)))))) [5, 6]))) rANil)))
  (rRet (rO (rTup (rCons (rVar 4) (rCons (rD (rCall sp_law_added (rACons (rP (rD (rLst (rCons (rVar 1) (rCons (rVar 3) rNil))))) (rACons (rP (rD (rLst (rCons (rD (rOp dIx (rN 0) (rP (rC (.int 1))))) (rCons (rD (rOp dIx (rN 2) (rP (rC (.int 1))))) rNil))))) rANil)))) rNil))))))
theorem q_law_times {P : Program} {w : World} {K : Fg} {mg : Str → Option Value} {base : Heap} {f : Addr} (g : Gs K mg) (h_law_added : Has P w K mg base "_law_added" ["parts", "quotients"] 3 sp_law_added) (cdv : Value) (A : Around) (outer : List PySem.Env) (s : Shared) (H : Hp) (E : XK) (hr : Room 3 (A.deeper (envOfC "_law_times" (defScope s_law_times) s.heap.objs.size f cdv))) :
    QSs (cxOf CX0 P w K mg base n_law_times "_law_times" (defScope s_law_times) f cdv A outer s H E).nox [] (defBody s_law_times) r_law_times :=
  (qss_cons (qs_set 4 sc_law_times.nd (qe_tuple g.tuple (qa_cons ((QE.v (qe_lcT (own := [("a", 5), ("b", 6)]) 2 rfl sc_law_times.nd (qf_zip g.zip (qv_ix (qp_var 0) (qv_int).p) (qv_ix (qp_var 2) (qv_int).p)) (blkOk_by (by rfl)) (fun _ _ _ _ _ => (qgs_cons (qg_name 5 sc_law_times.nd) (qgs_cons (qg_name 6 sc_law_times.nd) qgs_nil))) (fun _ _ _ _ _ => qts_nil) (fun _ _ _ _ _ => (QE.v (qe_add ((QE.v (qe_mul (qp_var 1) (qp_var 5)))).p ((QE.v (qe_mul (qp_var 3) (qp_var 6)))).p)))))).p qa_nil)))
  (qss_one (qs_ret (QV.o (qv_tup (ql_cons (qv_var 4) (ql_cons (QE.v (qe_call h_law_added (hr.mono (by decide)) (qa_cons ((QE.v (qe_lst (ql_cons (qv_var 1) (ql_cons (qv_var 3) ql_nil))))).p (qa_cons ((QE.v (qe_lst (ql_cons (qv_ix (qp_var 0) (qv_int).p) (ql_cons (qv_ix (qp_var 2) (qv_int).p) ql_nil))))).p qa_nil)))) ql_nil)))))))

theorem m_law_times (os : List O) (Q : O → List O → Prop) (h : sp_law_times os Q) : Ends r_law_times n_law_times os Q := by
  obtain ⟨s, u, f, g, rfl, hl, h4, hs, hu, ok, q⟩ := h
  have hf := ok.parts f (by simp)
  have hg := ok.parts g (by simp)
  walk_at "go"
  refine lcT_mapE (fun e => e = [some (.d (sumD s)), some (.d (.int f)), some (.d (sumD u)), some (.d (.int g)), none, none, none]) (ys := zD (timesP s u f g)) rfl (by
    show (zipD (s.1.map PyData.int) (u.1.map PyData.int)).length = _
    unfold zD timesP
    rw [zipD_len, List.length_map, List.length_zipWith]) (by
    show (zipD (s.1.map PyData.int) (u.1.map PyData.int)).length ≤ 1000
    rw [zipD_len]
    omega) ?_ ?_
  · rintro j xs y k' _ rfl hx hy hk'
    obtain ⟨a, b, ha, hb, rfl⟩ := zipD_at (f := PyData.int) (g := PyData.int) hx
    have hy2 : y = .int (f * a + g * b) := by
      unfold zD timesP at hy
      rw [List.getElem?_map, List.getElem?_zipWith, ha, hb] at hy
      exact (Option.some.inj hy).symm
    subst hy2
    refine ⟨rfl, ?_⟩
    walk_at "go"
    · exact hk' _ rfl
    · exact mul_fit hg (hu b (List.mem_of_getElem? hb)) (by omega) (by omega)
    · exact mul_fit hf (hs a (List.mem_of_getElem? ha)) (by omega) (by omega)
  rintro e rfl
  walk_at "go"
  · refine ⟨[f, g], [s.2, u.2], _, rfl, rfl, ok, ?_⟩
    walk_at "go"
    · exact q
    · exact (by decide : 2 ≤ sizeLine)
  all_goals exact (by decide : 2 ≤ sizeLine)
theorem f_law_times {P : Program} {w : World} {K : Fg} {mg : Str → Option Value} {base : Heap} {f : Addr} {fd : FuncData} (g : Gs K mg) (h_law_added : Has P w K mg base "_law_added" ["parts", "quotients"] 3 sp_law_added) (F : Fun K "_law_times" "_law_times" s_law_times f fd) : FnOk P w K mg base CX0 4 f fd ["row", "factor", "other", "more"] (SpOf K sp_law_times) :=
  fn_ok F sc_law_times [] (fun cdv A outer s H E hr => q_law_times g h_law_added cdv A outer s H E hr) (by walk_at "len") (by walk_at "keep") m_law_times
theorem mono_law_times : sp_law_times.Mono := by walk_at "mono"

end K82
set_option Elab.async false
set_option linter.all false
set_option maxRecDepth 100000
set_option maxHeartbeats 4000000
/-! La: what rows of fractions span, plainly. -/
namespace La
abbrev Vec := Nat → Rat
/-- what is put together out of the vectors of S -/
inductive Spn (S : Vec → Prop) : Vec → Prop
  | zero : Spn S (fun _ => 0)
  | step {v w : Vec} (c : Rat) : Spn S v → S w → Spn S (fun i => v i + c * w i)
theorem Spn.cast {S : Vec → Prop} {v w : Vec} (h : Spn S v) (e : ∀ i, v i = w i) : Spn S w := by
  have : v = w := funext e
  exact this ▸ h
theorem Spn.of {S : Vec → Prop} {w : Vec} (h : S w) : Spn S w := (Spn.step 1 .zero h).cast fun i => by grind
theorem Spn.comb {S : Vec → Prop} {v w : Vec} (a : Rat) (hv : Spn S v) (hw : Spn S w) : Spn S (fun i => v i + a * w i) := by
  induction hw with
  | zero => exact hv.cast fun i => by grind
  | step c _ h ih => exact (Spn.step (a * c) ih h).cast fun i => by grind
theorem Spn.smul {S : Vec → Prop} {w : Vec} (a : Rat) (hw : Spn S w) : Spn S (fun i => a * w i) := (Spn.comb a .zero hw).cast fun i => by grind
theorem Spn.trans {S T : Vec → Prop} (h : ∀ w, S w → Spn T w) {v : Vec} (hv : Spn S v) : Spn T v := by
  induction hv with
  | zero => exact .zero
  | step c _ hw ih => exact ih.comb c (h _ hw)
theorem Spn.mono {S T : Vec → Prop} (h : ∀ w, S w → T w) {v : Vec} (hv : Spn S v) : Spn T v := hv.trans fun w hw => .of (h w hw)
/-- what is linear passes on -/
theorem Spn.lin {S : Vec → Prop} {f : Vec → Rat} (f0 : f (fun _ => 0) = 0) (fs : ∀ (v w : Vec) (c : Rat), f (fun i => v i + c * w i) = f v + c * f w) (h : ∀ w, S w → f w = 0) {v : Vec} (hv : Spn S v) : f v = 0 := by
  induction hv with
  | zero => exact f0
  | step c _ hw ih => rw [fs, ih, h _ hw]; grind
/-! sums -/
def sm : Nat → (Nat → Rat) → Rat
  | 0, _ => 0
  | m + 1, f => sm m f + f m
theorem sm_congr {f g : Nat → Rat} : ∀ {m : Nat}, (∀ i, i < m → f i = g i) → sm m f = sm m g
  | 0, _ => rfl
  | m + 1, h => by
    show sm m f + f m = sm m g + g m
    rw [sm_congr fun i hi => h i (by omega), h m (by omega)]
theorem sm_add (f g : Nat → Rat) : ∀ m : Nat, sm m (fun i => f i + g i) = sm m f + sm m g
  | 0 => by show (0 : Rat) = 0 + 0; grind
  | m + 1 => by
    show sm m (fun i => f i + g i) + (f m + g m) = (sm m f + f m) + (sm m g + g m)
    rw [sm_add f g m]
    grind
theorem sm_mul (a : Rat) (f : Nat → Rat) : ∀ m : Nat, sm m (fun i => a * f i) = a * sm m f
  | 0 => by show (0 : Rat) = a * 0; grind
  | m + 1 => by
    show sm m (fun i => a * f i) + a * f m = a * (sm m f + f m)
    rw [sm_mul a f m]
    grind
theorem sm_zero {f : Nat → Rat} : ∀ {m : Nat}, (∀ i, i < m → f i = 0) → sm m f = 0
  | 0, _ => rfl
  | m + 1, h => by
    show sm m f + f m = 0
    rw [sm_zero fun i hi => h i (by omega), h m (by omega)]
    grind
theorem sm_one {f : Nat → Rat} {j : Nat} : ∀ {m : Nat}, j < m → (∀ i, i < m → i ≠ j → f i = 0) → sm m f = f j
  | 0, hj, _ => by omega
  | m + 1, hj, h => by
    show sm m f + f m = f j
    by_cases e : j = m
    · subst e
      rw [sm_zero fun i hi => h i (by omega) (by omega)]
      grind
    · rw [sm_one (show j < m by omega) fun i hi => h i (by omega), h m (by omega) (by omega)]
      grind
theorem sm_comm (f : Nat → Nat → Rat) (k : Nat) : ∀ m : Nat, sm m (fun i => sm k (fun j => f i j)) = sm k (fun j => sm m (fun i => f i j))
  | 0 => (sm_zero fun _ _ => rfl).symm
  | m + 1 => by
    show sm m (fun i => sm k (fun j => f i j)) + sm k (fun j => f m j) = sm k (fun j => sm m (fun i => f i j) + f m j)
    rw [sm_comm f k m, sm_add]
theorem sm_const : ∀ m : Nat, sm m (fun _ => 1) = (m : Rat)
  | 0 => rfl
  | m + 1 => by
    show sm m (fun _ => 1) + 1 = _
    rw [sm_const m]
    grind
/-- the first m of R -/
def Rows (m : Nat) (R : Nat → Vec) : Vec → Prop := fun w => ∃ i, i < m ∧ w = R i
theorem Spn.coef {m : Nat} {R : Nat → Vec} {v : Vec} (h : Spn (Rows m R) v) : ∃ a : Nat → Rat, ∀ c, v c = sm m (fun j => a j * R j c) := by
  induction h with
  | zero => exact ⟨fun _ => 0, fun c => (sm_zero fun i _ => by grind).symm⟩
  | @step v w k _ hw ih =>
    obtain ⟨a, ha⟩ := ih
    obtain ⟨j, hj, rfl⟩ := hw
    refine ⟨fun i => a i + if i = j then k else 0, fun c => ?_⟩
    show v c + k * R j c = sm m fun i => (a i + if i = j then k else 0) * R i c
    rw [ha c]
    have e : sm m (fun i => (a i + if i = j then k else 0) * R i c) = sm m (fun i => a i * R i c + (if i = j then k else 0) * R i c) := sm_congr fun i _ => by grind
    rw [e, sm_add, sm_one (f := fun i => (if i = j then k else 0) * R i c) hj fun i _ h => by rw [if_neg h]; grind]
    rw [if_pos rfl]
/-! rows that lead -/
structure Ech (n m : Nat) (R : Nat → Vec) (L : Nat → Nat) : Prop where
  lt : ∀ i, i < m → L i < n
  inc : ∀ i j, i < j → j < m → L i < L j
  one : ∀ i, i < m → R i (L i) ≠ 0
  off : ∀ i j, i < m → j < m → i ≠ j → R i (L j) = 0
  low : ∀ i c, i < m → c < L i → R i c = 0
section
variable {n m m' : Nat} {R R' : Nat → Vec} {L L' : Nat → Nat} {v : Vec}
theorem Ech.coord (h : Ech n m R L) (hv : Spn (Rows m R) v) (c : Nat) : v c = sm m (fun i => v (L i) / R i (L i) * R i c) := by
  induction hv with
  | zero => exact (sm_zero fun i _ => by grind).symm
  | @step v w k _ hw ih =>
    obtain ⟨j, hj, rfl⟩ := hw
    have e : sm m (fun i => (v (L i) + k * R j (L i)) / R i (L i) * R i c) = sm m (fun i => v (L i) / R i (L i) * R i c + k * (R j (L i) / R i (L i) * R i c)) := sm_congr fun i _ => by grind
    show v c + k * R j c = sm m (fun i => (v (L i) + k * R j (L i)) / R i (L i) * R i c)
    rw [e, sm_add, sm_mul, ← ih, sm_one (f := fun i => R j (L i) / R i (L i) * R i c) hj fun i hi ne => by rw [h.off j i hj hi fun z => ne z.symm]; grind]
    have := h.one j hj
    grind
/-- the first column of what they span is a lead -/
theorem Ech.lead (h : Ech n m R L) (hv : Spn (Rows m R) v) {c : Nat} (hc : v c ≠ 0) (hl : ∀ x, x < c → v x = 0) : ∃ i, i < m ∧ L i = c := by
  refine Classical.byContradiction fun no => hc ?_
  rw [h.coord hv c]
  refine sm_zero fun i hi => ?_
  have ne : L i ≠ c := fun z => no ⟨i, hi, z⟩
  by_cases lt : L i < c
  · rw [hl _ lt]; grind
  · rw [h.low i c hi (by omega)]; grind
/-- what has no parts has no due -/
theorem Ech.null (h : Ech n m R L) (hv : Spn (Rows m R) v) (hl : ∀ x, x < n → v x = 0) (c : Nat) : v c = 0 := by
  rw [h.coord hv c]
  exact sm_zero fun i hi => by rw [hl _ (h.lt i hi)]; grind
theorem Ech.mono (h : Ech n m R L) {i j : Nat} (hi : i < m) (hj : j < m) (hl : L i < L j) : i < j := by
  refine Classical.byContradiction fun z => ?_
  by_cases e : i = j
  · subst e; omega
  · have := h.inc j i (by omega) hi
    omega
theorem Ech.inj (h : Ech n m R L) {i j : Nat} (hi : i < m) (hj : j < m) (e : L i = L j) : i = j := by
  refine Classical.byContradiction fun z => ?_
  by_cases lt : i < j
  · have := h.inc i j lt hj; omega
  · have := h.inc j i (by omega) hi; omega
theorem Ech.sub (h : Ech n m R L) (h' : Ech n m' R' L') (s : ∀ i, i < m' → Spn (Rows m R) (R' i)) {i : Nat} (hi : i < m') : ∃ j, j < m ∧ L j = L' i :=
  h.lead (s i hi) (h'.one i hi) fun x hx => h'.low i x hi hx
theorem Ech.up (h : Ech n m R L) (h' : Ech n m' R' L') (s : ∀ i, i < m' → Spn (Rows m R) (R' i)) : ∀ i, i < m' → ∃ j, j < m ∧ L j = L' i ∧ i ≤ j
  | 0, hi => let ⟨j, a, b⟩ := h.sub h' s hi; ⟨j, a, b, by omega⟩
  | i + 1, hi => by
    obtain ⟨j, a, b, c⟩ := h.up h' s i (by omega)
    obtain ⟨k, d, e⟩ := h.sub h' s hi
    have := h'.inc i (i + 1) (by omega) hi
    have := h.mono a d (by omega)
    exact ⟨k, d, e, by omega⟩
theorem Ech.down (h : Ech n m R L) (h' : Ech n m' R' L') (s : ∀ i, i < m' → Spn (Rows m R) (R' i)) : ∀ k i, i + k + 1 = m' → ∃ j, j < m ∧ L j = L' i ∧ j + k + 1 ≤ m
  | 0, i, hi => let ⟨j, a, b⟩ := h.sub h' s (i := i) (by omega); ⟨j, a, b, by omega⟩
  | k + 1, i, hi => by
    obtain ⟨j, a, b, c⟩ := h.down h' s k (i + 1) (by omega)
    obtain ⟨q, d, e⟩ := h.sub h' s (i := i) (by omega)
    have := h'.inc i (i + 1) (by omega) (by omega)
    have := h.mono d a (by omega)
    exact ⟨q, d, e, by omega⟩
theorem Ech.le (h : Ech n m R L) (h' : Ech n m' R' L') (s : ∀ i, i < m' → Spn (Rows m R) (R' i)) : m' ≤ m := by
  by_cases z : m' = 0
  · omega
  · obtain ⟨j, a, b, c⟩ := h.up h' s (m' - 1) (by omega)
    omega
theorem Ech.leads (h : Ech n m R L) (h' : Ech n m' R' L') (s : ∀ i, i < m' → Spn (Rows m R) (R' i)) (hm : m ≤ m') {i : Nat} (hi : i < m') : L' i = L i := by
  have := h.le h' s
  obtain ⟨j, a, b, c⟩ := h.up h' s i hi
  obtain ⟨k, d, e, f⟩ := h.down h' s (m' - 1 - i) i (by omega)
  have := h.inj a d (by omega)
  have : j = i := by omega
  subst this
  exact b.symm
theorem Ech.prop (h : Ech n m R L) (h' : Ech n m' R' L') (s : ∀ i, i < m' → Spn (Rows m R) (R' i)) (hm : m ≤ m') {i : Nat} (hi : i < m') (c : Nat) : R' i c = R' i (L i) / R i (L i) * R i c := by
  have := h.le h' s
  rw [h.coord (s i hi) c]
  refine sm_one (f := fun j => R' i (L j) / R j (L j) * R j c) (by omega) fun j hj ne => ?_
  rw [← h.leads h' s hm (show j < m' by omega), h'.off i j hi (by omega) (fun z => ne z.symm)]
  grind
end
/-- two lots of rows, each with columns of its own, that span one another are as many -/
theorem rank_eq {m m' : Nat} {R R' : Nat → Vec} {L L' : Nat → Nat} (o : ∀ i, i < m → R i (L i) ≠ 0) (z : ∀ i j, i < m → j < m → i ≠ j → R i (L j) = 0) (o' : ∀ i, i < m' → R' i (L' i) ≠ 0) (z' : ∀ i j, i < m' → j < m' → i ≠ j → R' i (L' j) = 0)
    (s : ∀ i, i < m' → Spn (Rows m R) (R' i)) (s' : ∀ i, i < m → Spn (Rows m' R') (R i)) : m = m' := by
  have ca : ∀ i, ∃ a : Nat → Rat, i < m' → ∀ c, R' i c = sm m (fun j => a j * R j c) := fun i => by
    by_cases h : i < m'
    · exact let ⟨a, ha⟩ := (s i h).coef; ⟨a, fun _ => ha⟩
    · exact ⟨fun _ => 0, fun q => absurd q h⟩
  have cb : ∀ i, ∃ a : Nat → Rat, i < m → ∀ c, R i c = sm m' (fun j => a j * R' j c) := fun i => by
    by_cases h : i < m
    · exact let ⟨a, ha⟩ := (s' i h).coef; ⟨a, fun _ => ha⟩
    · exact ⟨fun _ => 0, fun q => absurd q h⟩
  obtain ⟨A, hA⟩ := Classical.axiomOfChoice ca
  obtain ⟨B, hB⟩ := Classical.axiomOfChoice cb
  have key : ∀ {m m' : Nat} {R R' : Nat → Vec} {L' : Nat → Nat} {A B : Nat → Nat → Rat}, (∀ i, i < m' → R' i (L' i) ≠ 0) → (∀ i j, i < m' → j < m' → i ≠ j → R' i (L' j) = 0) → (∀ i, i < m' → ∀ c, R' i c = sm m (fun j => A i j * R j c)) → (∀ i, i < m → ∀ c, R i c = sm m' (fun j => B i j * R' j c)) → ∀ i, i < m' → sm m (fun j => A i j * B j i) = 1 := by
    intro m m' R R' L' A B o' z' hA hB i hi
    have e1 : R' i (L' i) = sm m (fun j => A i j * B j i * R' i (L' i)) := by
      rw [hA i hi (L' i)]
      refine sm_congr fun j hj => ?_
      rw [hB j hj (L' i), sm_one (f := fun k => B j k * R' k (L' i)) hi fun k hk ne => by rw [z' k i hk hi ne]; grind]
      rw [← hA i hi (L' i)]
      grind
    have e2 : sm m (fun j => A i j * B j i * R' i (L' i)) = R' i (L' i) * sm m (fun j => A i j * B j i) := by
      rw [← sm_mul]
      exact sm_congr fun j _ => by grind
    rw [e2] at e1
    have := o' i hi
    grind
  have t1 : sm m' (fun i => sm m (fun j => A i j * B j i)) = (m' : Rat) := by
    rw [sm_congr (key o' z' hA hB), sm_const]
  have t2 : sm m (fun j => sm m' (fun i => B j i * A i j)) = (m : Rat) := by
    rw [sm_congr (key o z hB hA), sm_const]
  have t3 : sm m' (fun i => sm m (fun j => A i j * B j i)) = sm m (fun j => sm m' (fun i => B j i * A i j)) := by
    rw [sm_comm]
    exact sm_congr fun j _ => sm_congr fun i _ => by grind
  rw [t1, t2] at t3
  exact (Rat.natCast_inj.mp t3).symm
end La
set_option Elab.async false
set_option linter.all false
set_option maxRecDepth 100000
set_option maxHeartbeats 4000000
set_option exponentiation.threshold 10000
/-! La: rows of whole numbers without a common factor; forms of a book. -/
namespace La
open PySem PySem.Spec PyProof.Rows L2 Pf
theorem den_ne0 (r : Rat) : (r.den : Rat) ≠ 0 := by
  have h := r.den_nz
  intro z
  exact h (Rat.natCast_inj.mp (show (r.den : Rat) = ((0 : Nat) : Rat) from z))
theorem q_den (q : Rat) : q * (q.den : Rat) = (q.num : Rat) := by
  have h : (q.num : Rat) / ((q.den : Int) : Rat) = q := by rw [← Rat.divInt_eq_div, Rat.num_divInt_den]
  have e := den_ne0 q
  rw [Rat.intCast_natCast] at h
  generalize (q.den : Rat) = d at *
  generalize (q.num : Rat) = m at *
  grind
theorem gcdF_dvd (d : Nat) : ∀ (l : List Int) (g : Nat), (∀ x ∈ l, d ∣ x.natAbs) → d ∣ g → d ∣ l.foldl (fun g x => Nat.gcd g x.natAbs) g
  | [], g, _, h => h
  | x :: l, g, hl, h => gcdF_dvd d l _ (fun y hy => hl y (List.mem_cons_of_mem _ hy)) (Nat.dvd_gcd h (hl x List.mem_cons_self))
theorem gcdF_of : ∀ (l : List Int) (g : Nat), l.foldl (fun g x => Nat.gcd g x.natAbs) g ∣ g ∧ ∀ x ∈ l, l.foldl (fun g x => Nat.gcd g x.natAbs) g ∣ x.natAbs
  | [], g => ⟨Nat.dvd_refl g, by simp⟩
  | x :: l, g => by
    obtain ⟨h1, h2⟩ := gcdF_of l (Nat.gcd g x.natAbs)
    refine ⟨Nat.dvd_trans h1 (Nat.gcd_dvd_left ..), fun y hy => ?_⟩
    rcases List.mem_cons.mp hy with hy | hy
    · rw [hy]; exact Nat.dvd_trans h1 (Nat.gcd_dvd_right ..)
    · exact h2 y hy
theorem dvd_gcdAll {d : Nat} {l : List Int} (h : ∀ x ∈ l, d ∣ x.natAbs) : d ∣ gcdAll l := gcdF_dvd d l 0 h (Nat.dvd_zero d)
theorem gcdAll_dvd {l : List Int} {x : Int} (h : x ∈ l) : gcdAll l ∣ x.natAbs := (gcdF_of l 0).2 x h
/-- nothing ahead of k, something at k -/
structure LeadI (l : List Int) (k : Nat) : Prop where
  ne : l.getD k 0 ≠ 0
  low : ∀ j, j < k → l.getD j 0 = 0
theorem firstNZ_at : ∀ {l : List Int} {k : Nat}, LeadI l k → firstNZ l = l.getD k 0
  | [], k, h => absurd (by simp) h.ne
  | x :: l, 0, h => by
    have hx : x ≠ 0 := by simpa using h.ne
    unfold firstNZ
    rw [List.filter_cons_of_pos (by simpa using hx)]
    rfl
  | x :: l, k + 1, h => by
    have hx : x = 0 := by simpa using h.low 0 (by omega)
    have := firstNZ_at (l := l) (k := k) ⟨by simpa using h.ne, fun j hj => by simpa using h.low (j + 1) (by omega)⟩
    unfold firstNZ at this ⊢
    rw [List.filter_cons_of_neg (by simpa using hx)]
    simpa using this
theorem LeadI.mem {l : List Int} {k : Nat} (h : LeadI l k) : k < l.length := by
  refine Classical.byContradiction fun z => h.ne ?_
  rw [List.getD_eq_getElem?_getD, List.getElem?_eq_none_iff.mpr (by omega)]
  rfl
theorem getD_mem {l : List Int} {k : Nat} (h : k < l.length) : l.getD k 0 ∈ l := by
  rw [List.getD_eq_getElem?_getD, List.getElem?_eq_getElem h]
  exact List.getElem_mem h
theorem LeadI.gcd {l : List Int} {k : Nat} (h : LeadI l k) : gcdAll l ≠ 0 := fun z => by
  have := gcdAll_dvd (getD_mem h.mem)
  rw [z] at this
  have := Nat.eq_zero_of_zero_dvd this
  exact h.ne (by omega)
/-- brought to parts without a common factor -/
structure Normed (l t : List Int) (k : Nat) (g : Int) : Prop where
  len : t.length = l.length
  g0 : g ≠ 0
  at' : ∀ i, l.getD i 0 = g * t.getD i 0
  gcd : gcdAll t = 1
  pos : 0 < t.getD k 0
theorem normed {l : List Int} {k : Nat} (h : LeadI l k) : Normed l (l.map fun n => n.fdiv (sgnGcd l)) k (sgnGcd l) := by
  have hg := h.gcd
  have hs : (sgnGcd l).natAbs = gcdAll l := by
    unfold sgnGcd
    split <;> omega
  have h0 : sgnGcd l ≠ 0 := by omega
  have hd : ∀ x ∈ l, sgnGcd l ∣ x := fun x hx => by
    rw [← Int.natAbs_dvd_natAbs, hs]
    exact gcdAll_dvd hx
  have hat : ∀ i, l.getD i 0 = sgnGcd l * (l.map fun n => n.fdiv (sgnGcd l)).getD i 0 := fun i => by
    rw [List.getD_eq_getElem?_getD, List.getD_eq_getElem?_getD, List.getElem?_map]
    cases e : l[i]? with
    | none => simp
    | some x =>
      have := hd x (List.mem_of_getElem? e)
      show x = sgnGcd l * x.fdiv (sgnGcd l)
      rw [Int.mul_fdiv_cancel' this]
  have hk : 0 < (l.map fun n => n.fdiv (sgnGcd l)).getD k 0 := by
    have hh := hat k
    have hf := firstNZ_at h
    have hn := h.ne
    generalize (l.map fun n => n.fdiv (sgnGcd l)).getD k 0 = t at *
    by_cases c : firstNZ l < 0
    · have e : sgnGcd l < 0 := by unfold sgnGcd; rw [if_pos c]; omega
      rw [hf] at c
      rw [hh] at c
      exact Classical.byContradiction fun z => by
        have := Int.mul_nonneg_of_nonpos_of_nonpos (Int.le_of_lt e) (Int.not_lt.mp z)
        omega
    · have e : 0 < sgnGcd l := by unfold sgnGcd; rw [if_neg c]; omega
      rw [hf] at c
      rw [hh] at c hn
      exact Classical.byContradiction fun z => by
        have h1 : t ≠ 0 := fun z => hn (by rw [z]; simp)
        have := Int.mul_neg_of_pos_of_neg e (show t < 0 by omega)
        omega
  refine ⟨List.length_map _, h0, hat, ?_, hk⟩
  have hp : gcdAll (l.map fun n => n.fdiv (sgnGcd l)) * gcdAll l ∣ gcdAll l := by
    refine dvd_gcdAll fun x hx => ?_
    have e : x = sgnGcd l * x.fdiv (sgnGcd l) := by rw [Int.mul_fdiv_cancel' (hd x hx)]
    rw [e, Int.natAbs_mul, hs, Nat.mul_comm]
    exact Nat.mul_dvd_mul_left _ (gcdAll_dvd (List.mem_map_of_mem hx))
  obtain ⟨q, hq⟩ := hp
  have h1 : gcdAll l * (gcdAll (l.map fun n => n.fdiv (sgnGcd l)) * q) = gcdAll l * 1 := by
    rw [Nat.mul_one, ← Nat.mul_assoc, Nat.mul_comm (gcdAll l)]
    exact hq.symm
  have h2 := Nat.eq_of_mul_eq_mul_left (by omega) h1
  exact Nat.eq_one_of_mul_eq_one_right h2
/-- rows without a common factor, their leads above 0, that are multiples of one another, are equal -/
theorem prim_eq {l t : List Int} {k : Nat} {q : Rat} (hl : l.length = t.length) (gl : gcdAll l = 1) (gt : gcdAll t = 1) (pl : 0 < l.getD k 0) (pt : 0 < t.getD k 0) (h : ∀ i, ((t.getD i 0 : Int) : Rat) = q * ((l.getD i 0 : Int) : Rat)) : q = 1 := by
  have hz : ∀ i, q.den * t.getD i 0 = q.num * l.getD i 0 := fun i => by
    have e := h i
    have hq : (q.den : Rat) * q = (q.num : Rat) := by
      rw [Rat.mul_comm]
      exact q_den q
    have e2 : ((q.den : Int) : Rat) * ((t.getD i 0 : Int) : Rat) = ((q.num : Int) : Rat) * ((l.getD i 0 : Int) : Rat) := by
      rw [e, ← Rat.mul_assoc, Rat.intCast_natCast, hq]
    rw [← Rat.intCast_mul, ← Rat.intCast_mul] at e2
    exact Rat.intCast_inj.mp e2
  have hc := q.reduced
  have d1 : q.den ∣ 1 := by
    rw [← gl]
    refine dvd_gcdAll fun x hx => ?_
    obtain ⟨i, hi, e⟩ := List.getElem_of_mem hx
    have ex : l.getD i 0 = x := by rw [List.getD_eq_getElem?_getD, List.getElem?_eq_getElem hi, ← e]; rfl
    have hh := hz i
    rw [ex] at hh
    have : q.den ∣ q.num.natAbs * x.natAbs := by
      rw [← Int.natAbs_mul, ← hh, Int.natAbs_mul, Int.natAbs_natCast]
      exact Nat.dvd_mul_right _ _
    exact Nat.Coprime.dvd_of_dvd_mul_left hc.symm this
  have d2 : q.num.natAbs ∣ 1 := by
    rw [← gt]
    refine dvd_gcdAll fun x hx => ?_
    obtain ⟨i, hi, e⟩ := List.getElem_of_mem hx
    have ex : t.getD i 0 = x := by rw [List.getD_eq_getElem?_getD, List.getElem?_eq_getElem hi, ← e]; rfl
    have hh := hz i
    rw [ex] at hh
    have : q.num.natAbs ∣ q.den * x.natAbs := by
      have : ((q.den : Int) * x).natAbs = q.den * x.natAbs := by rw [Int.natAbs_mul, Int.natAbs_natCast]
      rw [← this, hh, Int.natAbs_mul]
      exact Nat.dvd_mul_right _ _
    exact Nat.Coprime.dvd_of_dvd_mul_left hc this
  have e1 : q.den = 1 := Nat.dvd_one.mp d1
  have e2 : q.num.natAbs = 1 := Nat.dvd_one.mp d2
  have hk := hz k
  rw [e1] at hk
  have e3 : q.num = 1 := by
    rcases Int.natAbs_eq_iff.mp e2 with h | h
    · exact h
    · rw [h] at hk
      have : ((1 : Nat) : Int) = 1 := rfl
      rw [this] at hk
      omega
  exact Rat.ext e3 e1
/-! forms -/
def vecS (s : Sm) : Vec := fun i => (augRow s).getD i 0
def SpS (E : List Sm) : Vec → Prop := Spn fun w => ∃ s, s ∈ E ∧ w = vecS s
def atS (E : List Sm) (i : Nat) : Vec := vecS (E.getD i ([], 0))
/-- a row form with n figures -/
def Rnf (n : Nat) (E : List Sm) : Prop := ∃ L : Nat → Nat, Ech n E.length (atS E) L ∧ ∀ (i : Nat) (s : Sm), E[i]? = some s → s.1.length = n ∧ gcdAll s.1 = 1 ∧ 0 < s.1.getD (L i) 0
theorem vecS_part {s : Sm} {i : Nat} (h : i < s.1.length) : vecS s i = ((s.1.getD i 0 : Int) : Rat) := by
  unfold vecS augRow
  rw [List.getD_eq_getElem?_getD, List.getElem?_append_left (by rw [List.length_map]; exact h), List.getElem?_map, List.getD_eq_getElem?_getD, List.getElem?_eq_getElem h]
  rfl
theorem vecS_due {s : Sm} : vecS s s.1.length = s.2 := by
  unfold vecS augRow
  rw [List.getD_eq_getElem?_getD, List.getElem?_append_right (by rw [List.length_map]; exact Nat.le_refl _), List.length_map, Nat.sub_self]
  rfl
theorem vecS_far {s : Sm} {i : Nat} (h : s.1.length < i) : vecS s i = 0 := by
  unfold vecS augRow
  rw [List.getD_eq_getElem?_getD, List.getElem?_eq_none_iff.mpr (by rw [List.length_append, List.length_map, List.length_singleton]; omega)]
  rfl
theorem rows_iff {E : List Sm} {w : Vec} : Rows E.length (atS E) w ↔ ∃ s, s ∈ E ∧ w = vecS s := by
  constructor
  · rintro ⟨i, hi, rfl⟩
    refine ⟨E[i], List.getElem_mem hi, ?_⟩
    unfold atS
    rw [List.getD_eq_getElem?_getD, List.getElem?_eq_getElem hi]
    rfl
  · rintro ⟨s, hs, rfl⟩
    obtain ⟨i, hi, e⟩ := List.getElem_of_mem hs
    refine ⟨i, hi, ?_⟩
    unfold atS
    rw [List.getD_eq_getElem?_getD, List.getElem?_eq_getElem hi, e]
    rfl
theorem spS_rows {E : List Sm} {v : Vec} (h : SpS E v) : Spn (Rows E.length (atS E)) v := h.mono fun _ hw => rows_iff.mpr hw
theorem rows_spS {E : List Sm} {v : Vec} (h : Spn (Rows E.length (atS E)) v) : SpS E v := h.mono fun _ hw => rows_iff.mp hw
theorem SpS.of {E : List Sm} {s : Sm} (h : s ∈ E) : SpS E (vecS s) := Spn.of ⟨s, h, rfl⟩
theorem SpS.trans {E F : List Sm} {v : Vec} (h : SpS E v) (hs : ∀ s ∈ E, SpS F (vecS s)) : SpS F v := Spn.trans (fun w ⟨s, h1, h2⟩ => h2 ▸ hs s h1) h
theorem at_mem {E : List Sm} {i : Nat} (hi : i < E.length) : ∃ s, E[i]? = some s ∧ s ∈ E ∧ atS E i = vecS s := ⟨E[i], List.getElem?_eq_getElem hi, List.getElem_mem hi, by
  unfold atS
  rw [List.getD_eq_getElem?_getD, List.getElem?_eq_getElem hi]
  rfl⟩
theorem sm_ext {s t : Sm} (hl : s.1.length = t.1.length) (h : ∀ i, vecS s i = vecS t i) : s = t := by
  have e1 : s.1 = t.1 := by
    refine List.ext_getElem hl fun i h1 h2 => ?_
    have := h i
    rw [vecS_part h1, vecS_part h2] at this
    have := Rat.intCast_inj.mp this
    rw [List.getD_eq_getElem?_getD, List.getD_eq_getElem?_getD, List.getElem?_eq_getElem h1, List.getElem?_eq_getElem h2] at this
    exact this
  have e2 : s.2 = t.2 := by
    have := h s.1.length
    rw [vecS_due, hl, vecS_due] at this
    exact this
  exact Prod.ext e1 e2
/-- a form within a form that has no more sums is that form -/
theorem Rnf.eq {n : Nat} {E F : List Sm} (hE : Rnf n E) (hF : Rnf n F) (s : ∀ x ∈ F, SpS E (vecS x)) (hm : E.length ≤ F.length) : F = E := by
  obtain ⟨L, h, p⟩ := hE
  obtain ⟨L', h', p'⟩ := hF
  have s' : ∀ i, i < F.length → Spn (Rows E.length (atS E)) (atS F i) := fun i hi => by
    obtain ⟨x, _, hx, e⟩ := at_mem hi
    rw [e]
    exact spS_rows (s x hx)
  have hle := h.le h' s'
  refine List.ext_getElem (by omega) fun i h1 h2 => ?_
  have q := h.prop h' s' hm h1
  obtain ⟨x, ex, mx, vx⟩ := at_mem h1
  obtain ⟨y, ey, my, vy⟩ := at_mem h2
  obtain ⟨l1, g1, q1⟩ := p' i x ex
  obtain ⟨l2, g2, q2⟩ := p i y ey
  have hL := h.leads h' s' hm h1
  rw [hL] at q1
  have hlt := h.lt i h2
  rw [vx, vy] at q
  have one := prim_eq (l := y.1) (t := x.1) (k := L i) (q := vecS x (L i) / vecS y (L i)) (by omega) g2 g1 q2 q1 fun j => by
    by_cases hj : j < n
    · have := q j
      rw [vecS_part (show j < x.1.length by omega), vecS_part (show j < y.1.length by omega)] at this
      exact this
    · rw [List.getD_eq_getElem?_getD, List.getElem?_eq_none_iff.mpr (by omega), List.getD_eq_getElem?_getD, List.getElem?_eq_none_iff.mpr (by omega)]
      show ((0 : Int) : Rat) = _ * ((0 : Int) : Rat)
      grind
  rw [one] at q
  have : x = y := sm_ext (by omega) fun j => by rw [q j]; grind
  have e1 : F[i] = x := by rw [List.getElem?_eq_getElem h1] at ex; exact Option.some.inj ex
  have e2 : E[i] = y := by rw [List.getElem?_eq_getElem h2] at ey; exact Option.some.inj ey
  rw [e1, e2, this]
theorem Rnf.le {n : Nat} {E F : List Sm} (hE : Rnf n E) (hF : Rnf n F) (s : ∀ x ∈ F, SpS E (vecS x)) : F.length ≤ E.length := by
  obtain ⟨L, h, p⟩ := hE
  obtain ⟨L', h', p'⟩ := hF
  exact h.le h' fun i hi => by
    obtain ⟨x, _, hx, e⟩ := at_mem hi
    rw [e]
    exact spS_rows (s x hx)
/-- forms that span the same are equal -/
theorem Rnf.uniq {n : Nat} {E F : List Sm} (hE : Rnf n E) (hF : Rnf n F) (s : ∀ x ∈ F, SpS E (vecS x)) (s' : ∀ x ∈ E, SpS F (vecS x)) : F = E := hE.eq hF s (hF.le hE s')
theorem Rnf.null {n : Nat} {E : List Sm} (hE : Rnf n E) {v : Vec} (hv : SpS E v) (h0 : ∀ i, i < n → v i = 0) (c : Nat) : v c = 0 := let ⟨_, h, _⟩ := hE; h.null (spS_rows hv) h0 c
end La
set_option Elab.async false
set_option linter.all false
set_option maxRecDepth 100000
set_option maxHeartbeats 4000000
set_option exponentiation.threshold 10000
/-! La: what the elimination keeps and brings about. -/
namespace La
open PySem PySem.Spec PyProof.Rows L2 Pf
theorem getD_far {α : Type} {l : List α} {i : Nat} {d : α} (h : l.length ≤ i) : l.getD i d = d := by
  rw [List.getD_eq_getElem?_getD, List.getElem?_eq_none_iff.mpr h]
  rfl
theorem getD_at {α : Type} {l : List α} {i : Nat} {d x : α} (h : l[i]? = some x) : l.getD i d = x := by
  rw [List.getD_eq_getElem?_getD, h]
  rfl
theorem clearRow_at {row lead : List Rat} {col x : Nat} (hl : row.length = lead.length) : (clearRow row lead col).getD x 0 = row.getD x 0 - row.getD col 0 * lead.getD x 0 := by
  unfold clearRow
  by_cases h : x < row.length
  · rw [List.getD_eq_getElem?_getD, List.getElem?_zipWith, List.getD_eq_getElem?_getD (l := row) (i := x), List.getD_eq_getElem?_getD (l := lead), List.getElem?_eq_getElem h, List.getElem?_eq_getElem (show x < lead.length by omega)]
    rfl
  · rw [getD_far (by rw [List.length_zipWith]; omega), getD_far (show row.length ≤ x by omega), getD_far (show lead.length ≤ x by omega)]
    grind
theorem swapDiv_at {m : List (List Rat)} {d i c : Nat} (hd : d < m.length) (hi : i < m.length) (j : Nat) : (swapDiv m d i c).getD j [] = if j = d then (m.getD i []).map (· / at2 m i c) else if j = i then m.getD d [] else m.getD j [] := by
  unfold swapDiv
  rw [List.getD_eq_getElem?_getD, List.getElem?_set]
  by_cases h1 : j = d
  · subst h1
    rw [if_pos rfl, if_pos (by simpa using hd), if_pos rfl]
    rfl
  · rw [if_neg (fun z => h1 z.symm), if_neg h1, List.getElem?_set]
    by_cases h2 : j = i
    · subst h2
      rw [if_pos rfl, if_pos (by simpa using hi), if_pos rfl]
      rfl
    · rw [if_neg (fun z => h2 z.symm), if_neg h2, List.getElem?_set_ne (fun z => h1 z.symm), List.getD_eq_getElem?_getD]
theorem clearTo_at (m : List (List Rat)) (d c t j : Nat) : (clearTo m d c t).getD j [] = if j < m.length ∧ j < t ∧ j ≠ d then clearRow (m.getD j []) (m.getD d []) c else m.getD j [] := by
  by_cases h : j < m.length
  · have e : m[j]? = some m[j] := List.getElem?_eq_getElem h
    rw [List.getD_eq_getElem?_getD, clearTo_get e, getD_at e]
    by_cases h2 : j < t ∧ j ≠ d
    · rw [if_pos h2, if_pos ⟨h, h2⟩]; rfl
    · rw [if_neg h2, if_neg (fun z => h2 z.2)]; rfl
  · rw [getD_far (by rw [clearTo_len]; omega), if_neg (fun z => h z.1), getD_far (by omega)]
theorem elim_at {w : Nat} {m : List (List Rat)} (hw : Wide w m) {d i c : Nat} (hd : d < m.length) (hi : i < m.length) (j x : Nat) :
    at2 (elim m d i c) j x = if j = d then at2 m i x / at2 m i c else at2 m (if j = i then d else j) x - at2 m (if j = i then d else j) c * (at2 m i x / at2 m i c) := by
  have hdiv : ∀ x, ((m.getD i []).map (· / at2 m i c)).getD x 0 = at2 m i x / at2 m i c := fun x => by
    unfold at2
    rw [List.getD_eq_getElem?_getD, List.getElem?_map, List.getD_eq_getElem?_getD (l := m.getD i []) (i := x)]
    cases (m.getD i [])[x]? with
    | none => show (0 : Rat) = 0 / _; grind
    | some y => rfl
  have hdd : (swapDiv m d i c).getD d [] = (m.getD i []).map (· / at2 m i c) := by rw [swapDiv_at hd hi, if_pos rfl]
  show ((elim m d i c).getD j []).getD x 0 = _
  unfold elim
  rw [clearTo_at, hdd, swapDiv_len]
  by_cases h1 : j = d
  · subst h1
    rw [if_neg (fun z => z.2.2 rfl), if_pos rfl, hdd, hdiv]
  · rw [if_neg h1]
    have hr : (swapDiv m d i c).getD j [] = m.getD (if j = i then d else j) [] := by
      rw [swapDiv_at hd hi, if_neg h1]
      split <;> rfl
    rw [hr]
    by_cases h2 : j < m.length
    · rw [if_pos ⟨h2, h2, h1⟩]
      have hrl : (if j = i then d else j) < m.length := by split <;> omega
      rw [clearRow_at (by rw [List.length_map, hw.getD hrl, hw.getD hi]), hdiv]
      rfl
    · have h3 : j ≠ i := by omega
      rw [if_neg (fun z => h2 z.1), if_neg h3]
      unfold at2
      rw [getD_far (l := m) (i := j) (by omega)]
      show (0 : Rat) = 0 - 0 * _
      grind
theorem at2_far {m : List (List Rat)} {j x : Nat} (h : m.length ≤ j) : at2 m j x = 0 := by
  unfold at2
  rw [getD_far h]
  rfl
theorem findLead_no {m : List (List Rat)} {d c : Nat} (h : findLead m d c = none) : ∀ j, d ≤ j → at2 m j c = 0 := fun j hj => by
  by_cases hl : j < m.length
  · unfold findLead at h
    rw [List.find?_eq_none] at h
    have := h j (List.mem_range.mpr hl)
    simp only [decide_eq_true_eq, not_and, Classical.not_not] at this
    exact this hj
  · exact at2_far (by omega)
def SpA (M : Nat → Vec) : Vec → Prop := Spn fun w => ∃ j, w = M j
/-- the state ahead of column c -/
structure RInv (n : Nat) (S0 : Vec → Prop) (c : Nat) (st : List (List Rat) × List Nat) : Prop where
  wide : Wide (n + 1) st.1
  few : st.2.length ≤ st.1.length
  lt : ∀ i l : Nat, st.2[i]? = some l → l < c
  inc : ∀ i j l l' : Nat, i < j → st.2[i]? = some l → st.2[j]? = some l' → l < l'
  one : ∀ i l : Nat, st.2[i]? = some l → at2 st.1 i l = 1
  off : ∀ i j l : Nat, st.2[i]? = some l → j ≠ i → at2 st.1 j l = 0
  low : ∀ i l x : Nat, st.2[i]? = some l → x < l → at2 st.1 i x = 0
  nil : ∀ j x : Nat, st.2.length ≤ j → x < c → at2 st.1 j x = 0
  sub : ∀ j, Spn S0 (at2 st.1 j)
  sup : ∀ w, S0 w → SpA (at2 st.1) w
theorem snoc_get {α : Type} {l : List α} {x y : α} {i : Nat} (h : (l ++ [x])[i]? = some y) : (i < l.length ∧ l[i]? = some y) ∨ (i = l.length ∧ y = x) := by
  by_cases hi : i < l.length
  · rw [List.getElem?_append_left hi] at h
    exact .inl ⟨hi, h⟩
  · rw [List.getElem?_append_right (by omega)] at h
    by_cases e : i = l.length
    · subst e
      rw [Nat.sub_self] at h
      exact .inr ⟨rfl, (Option.some.inj h).symm⟩
    · rw [List.getElem?_eq_none_iff.mpr (by rw [List.length_singleton]; omega)] at h
      cases h
theorem RInv.step {n : Nat} {S0 : Vec → Prop} {c : Nat} {st : List (List Rat) × List Nat} (h : RInv n S0 c st) : RInv n S0 (c + 1) (redStep st c) := by
  unfold redStep
  split
  · rename_i e
    have hz := findLead_no e
    exact ⟨h.wide, h.few, fun i l g => by have := h.lt i l g; omega, h.inc, h.one, h.off, h.low, fun j x hj hx => by
      by_cases q : x = c
      · subst q; exact hz j hj
      · exact h.nil j x hj (by omega), h.sub, h.sup⟩
  · rename_i i e
    obtain ⟨h1, h2, h3, _⟩ := findLead_spec e
    obtain ⟨m, ls⟩ := st
    dsimp only at *
    have hd : ls.length < m.length := by omega
    have at' := elim_at h.wide (c := c) hd h2
    generalize hp : at2 m i c = p at *
    have lt : ∀ {a l}, ls[a]? = some l → a < ls.length := fun g => (List.getElem?_eq_some_iff.mp g).1
    refine ⟨h.wide.elim hd h2, by rw [elim_len, List.length_append, List.length_singleton]; omega, fun a l g => ?_, fun a b l l' ab g g' => ?_, fun a l g => ?_, fun a j l g ne => ?_, fun a l x g hx => ?_, fun j x hj hx => ?_, fun j => ?_, fun w hw => ?_⟩
    · rcases snoc_get g with ⟨_, g⟩ | ⟨_, g⟩
      · have := h.lt a l g; omega
      · omega
    · rcases snoc_get g with ⟨_, g⟩ | ⟨e1, g⟩
      · rcases snoc_get g' with ⟨_, g'⟩ | ⟨_, g'⟩
        · exact h.inc a b l l' ab g g'
        · have := h.lt a l g; omega
      · rcases snoc_get g' with ⟨_, g'⟩ | ⟨_, g'⟩ <;> omega
    · show at2 (elim m ls.length i c) a l = 1
      rw [at']
      rcases snoc_get g with ⟨ha, g⟩ | ⟨ha, g⟩
      · rw [if_neg (by omega), if_neg (by omega), h.one a l g, h.off a i l g (by omega)]
        grind
      · subst g
        rw [if_pos ha, hp]
        grind
    · show at2 (elim m ls.length i c) j l = 0
      rw [at']
      rcases snoc_get g with ⟨ha, g⟩ | ⟨ha, g⟩
      · have e1 := h.off a i l g (by omega)
        dsimp only at e1
        split
        · rw [e1]; grind
        · rw [e1, h.off a _ l g (by split <;> omega)]; grind
      · subst g
        rw [if_neg (by omega), hp]
        grind
    · show at2 (elim m ls.length i c) a x = 0
      rw [at']
      rcases snoc_get g with ⟨ha, g⟩ | ⟨ha, g⟩
      · have := h.lt a l g
        have e1 := h.nil i x h1 (by omega)
        have e2 := h.low a l x g hx
        dsimp only at e1 e2
        rw [if_neg (by omega), if_neg (by omega), e1, e2]
        grind
      · subst g
        have e1 := h.nil i x h1 hx
        dsimp only at e1
        rw [if_pos ha, e1]
        grind
    · rw [List.length_append, List.length_singleton] at hj
      show at2 (elim m ls.length i c) j x = 0
      rw [at', if_neg (by omega)]
      by_cases q : x = c
      · subst q
        rw [hp]
        grind
      · have e1 := h.nil i x h1 (by omega)
        have e2 := h.nil (if j = i then ls.length else j) x (by dsimp only; split <;> omega) (by omega)
        dsimp only at e1 e2
        rw [e1, e2]
        grind
    · show Spn S0 (at2 (elim m ls.length i c) j)
      by_cases q : j = ls.length
      · exact ((h.sub i).smul (1 / p)).cast fun x => by rw [at', if_pos q]; dsimp only; grind
      · exact ((h.sub (if j = i then ls.length else j)).comb (-(at2 m (if j = i then ls.length else j) c / p)) (h.sub i)).cast fun x => by rw [at', if_neg q]; dsimp only; grind
    · refine (h.sup w hw).trans fun v ⟨k, hk⟩ => ?_
      subst hk
      dsimp only
      have lead : SpA (at2 (elim m ls.length i c)) (at2 (elim m ls.length i c) ls.length) := .of ⟨_, rfl⟩
      by_cases q : k = i
      · subst q
        exact (lead.smul p).cast fun x => by rw [at', if_pos rfl]; grind
      · by_cases q2 : k = ls.length
        · exact (Spn.comb (S := fun w => ∃ j, w = at2 (elim m ls.length i c) j) (at2 m k c) (.of ⟨i, rfl⟩) lead).cast fun x => by
            rw [at', at', if_pos rfl, if_neg (by omega), if_pos rfl, ← q2]; grind
        · exact (Spn.comb (S := fun w => ∃ j, w = at2 (elim m ls.length i c) j) (at2 m k c) (.of ⟨k, rfl⟩) lead).cast fun x => by
            rw [at', at', if_pos rfl, if_neg q2, if_neg q]; grind
theorem RInv.start {n : Nat} {rows : List Sm} (hw : ∀ s ∈ rows, s.1.length = n) : RInv n (fun w => ∃ s, s ∈ rows ∧ w = vecS s) 0 (augM rows, []) := by
  have hat : ∀ j, (∃ s, s ∈ rows ∧ at2 (augM rows) j = vecS s) ∨ at2 (augM rows) j = fun _ => 0 := fun j => by
    by_cases h : j < rows.length
    · refine .inl ⟨rows[j], List.getElem_mem h, ?_⟩
      funext x
      unfold at2 augM vecS
      rw [getD_at (l := rows.map augRow) (x := augRow rows[j]) (by rw [List.getElem?_map, List.getElem?_eq_getElem h]; rfl)]
    · refine .inr (funext fun x => at2_far ?_)
      unfold augM
      rw [List.length_map]
      omega
  refine ⟨aug_wide hw, Nat.zero_le _, by simp, by simp, by simp, by simp, by simp, fun _ _ _ h => by omega, fun j => ?_, fun w ⟨s, hs, e⟩ => ?_⟩
  · rcases hat j with ⟨s, hs, e⟩ | e
    · dsimp only; rw [e]; exact .of ⟨s, hs, rfl⟩
    · dsimp only; rw [e]; exact .zero
  · obtain ⟨j, hj, ej⟩ := List.getElem_of_mem hs
    refine .of ⟨j, ?_⟩
    rw [e]
    funext x
    unfold at2 augM vecS
    rw [getD_at (l := rows.map augRow) (x := augRow s) (by rw [List.getElem?_map, List.getElem?_eq_getElem hj, ej]; rfl)]
theorem red_inv {n : Nat} {rows : List Sm} (hw : ∀ s ∈ rows, s.1.length = n) : ∀ k, RInv n (fun w => ∃ s, s ∈ rows ∧ w = vecS s) k (redAll (augM rows) (List.range k))
  | 0 => RInv.start hw
  | k + 1 => by
    have := (red_inv hw k).step
    unfold redAll at *
    rw [List.range_succ, List.foldl_append]
    exact this
end La
set_option Elab.async false
set_option linter.all false
set_option maxRecDepth 100000
set_option maxHeartbeats 4000000
set_option exponentiation.threshold 20000
set_option pp.deepTerms false
set_option pp.maxSteps 500
namespace K82
open PySem PySem.Spec PyProof.Rows L2 Pf
local macro_rules | `(tactic| walk_at "go") => `(tactic| (conv => whnf) <;> repeat ((first | refine atE rfl ?_ | refine andR ?_ ?_); (conv => whnf)))
local macro_rules | `(tactic| walk_at "wh") => `(tactic| conv => whnf)
local macro_rules | `(tactic| walk_at "len") => `(tactic| (intro os Q h; (repeat (obtain ⟨_, h⟩ := h)); subst_vars; rfl))
local macro_rules | `(tactic| walk_at "keep") => `(tactic| (intro os Q h; (repeat (obtain ⟨_, h⟩ := h)); subst_vars; simp [keepOk]))
local macro_rules | `(tactic| walk_at "mono") => `(tactic| (intro os k k' f; repeat (first | exact f _ _ | refine Exists.imp fun _ => ?_ | refine And.imp_right ?_ | refine forall_imp fun _ => ?_)))
/-! the law's own elimination, whole -/
def rowI (r : List Int) : D := .list (zD r)
def firstAt (left : List (List Int)) (s : Nat) : Option Nat := (List.range left.length).find? fun i => decide ((left.getD i []).getD s 0 ≠ 0)
def stepR (st : List (List Int) × List (List Int)) (s : Nat) : List (List Int) × List (List Int) := match firstAt st.2 s with
  | none => st
  | some i => ((st.1.map fun r => ridL r (st.2.getD i []) s) ++ [st.2.getD i []], (st.2.eraseIdx i).map fun r => ridL r (st.2.getD i []) s)
def redL (lines : List (List Int)) (n : Nat) : List (List Int) × List (List Int) := (List.range n).foldl stepR ([], lines)
/-- the lines of a state are as wide as they have to be and not too great -/
structure LineOk (w : Nat) (st : List (List Int) × List (List Int)) : Prop where
  wide : ∀ r ∈ st.1 ++ st.2, r.length = w
  fit : ∀ r ∈ st.1 ++ st.2, ∀ x ∈ r, x.natAbs < 2 ^ 9000
  few : st.1.length + st.2.length ≤ 400
def sp_law_reduced : FSp := fun os Q => ∃ (lines : List (List Int)) (n w : Nat), os = [.d (.list (lines.map rowI)), .d (.int (n : Nat))] ∧ n < w ∧ w ≤ 400 ∧ (∀ j, j ≤ n → LineOk w ((List.range j).foldl stepR ([], lines))) ∧
  (∀ j, j < n → ∀ lead ∈ ((List.range j).foldl stepR ([], lines)).2, ∀ r ∈ ((List.range j).foldl stepR ([], lines)).1 ++ ((List.range j).foldl stepR ([], lines)).2, gcdAll (freshL r lead j) < 2 ^ 9000) ∧
  Q (.own [.list ((redL lines n).1.map rowI), .list ((redL lines n).2.map rowI)]) os
/-! ### _law_reduced -/
abbrev s_law_reduced : Stmt := topS 66
abbrev n_law_reduced : List Str := ["lines", "many", "left", "done", "spot", "places", "at", "lead", "line"]
theorem sc_law_reduced : FnScope n_law_reduced ["lines", "many"] (defScope s_law_reduced) := ⟨rfl, rfl, rfl, by decide +kernel, rfl, by decide +kernel, by decide +kernel⟩
def r_law_reduced : RS := (rSeq (rSet 2 (rCB fList (rACons (rN 0) rANil)))
  (rSeq (rSet 3 (rLst rNil))
  (rSeq (rFor (rRng1 (rVar 1)) (rGn 4) (rSeq (rSet 5 (rLc (rRng1 (rD (rCB fLen (rACons (rN 2) rANil)))) (rGn 6) (rCmp (dEq true) (rP (rD (rOp dIx (rP (rD (rOp dIx (rN 2) (rN 6)))) (rN 4)))) (rP (rC (.int 0)))) (rVar 6) [6]))
  (rIfS (rCmp bGt (rP (rD (rCB fLen (rACons (rN 5) rANil)))) (rP (rC (.int 0)))) (rSeq (rSet 7 (rPopI 2 (rD (rOp dIx (rN 5) (rP (rC (.int 0)))))))
  (rSeq (rSet 2 (rLc (rFs (rVar 2)) (rGn 8) rYes (rD (rCall sp_law_rid (rACons (rN 8) (rACons (rN 7) (rACons (rN 4) rANil))))) [8]))
  (rSeq (rSet 3 (rLc (rFs (rVar 3)) (rGn 8) rYes (rD (rCall sp_law_rid (rACons (rN 8) (rACons (rN 7) (rACons (rN 4) rANil))))) [8]))
  (rDrop (rApp 3 (rVar 7)))))) rNext)))
  (rRet (rLst (rCons (rVar 3) (rCons (rVar 2) rNil)))))))
theorem q_law_reduced {P : Program} {w : World} {K : Fg} {mg : Str → Option Value} {base : Heap} {f : Addr} (g : Gs K mg) (h_law_rid : Has P w K mg base "_law_rid" ["line", "lead", "spot"] 2 sp_law_rid) (cdv : Value) (A : Around) (outer : List PySem.Env) (s : Shared) (H : Hp) (E : XK) (hr : Room 2 (A.deeper (envOfC "_law_reduced" (defScope s_law_reduced) s.heap.objs.size f cdv))) :
    QSs (cxOf CX0 P w K mg base n_law_reduced "_law_reduced" (defScope s_law_reduced) f cdv A outer s H E).nox [] (defBody s_law_reduced) r_law_reduced :=
  (qss_cons (qs_set 2 sc_law_reduced.nd (qe_list rfl g.list (qa_cons (qp_var 0) qa_nil)))
  (qss_cons (qs_set 3 sc_law_reduced.nd (qe_lst ql_nil))
  (qss_cons (qs_for PassesOwn.never rfl (qf_range1 g.range (qv_var 1)) (qg_name 4 sc_law_reduced.nd) (qss_cons (qs_setLc (own := [("at", 6)]) 5 rfl sc_law_reduced.nd (qf_range1 g.range (QE.v (qe_len g.len (qa_cons (qp_var 2) qa_nil)))) (blkOk_by (by rfl)) (fun _ _ _ _ _ => (qg_name 6 sc_law_reduced.nd)) (fun _ _ _ _ _ => (qts_one (qt_ne hr.units ((qv_ix ((qv_ix (qp_var 2) (qp_var 6))).p (qp_var 4))).p (qv_int).p))) (fun _ _ _ _ _ => (qv_var 6)))
  (qss_one (qs_if (qt_gt ((QE.v (qe_len g.len (qa_cons (qp_var 5) qa_nil)))).p (qv_int).p) (qss_cons (qs_set 7 sc_law_reduced.nd (qe_popI 2 (qv_ix (qp_var 5) (qv_int).p)))
  (qss_cons (qs_set 2 sc_law_reduced.nd (qe_lc (own := [("line", 8)]) rfl sc_law_reduced.nd (qf_seq (qv_var 2)) (blkOk_by (by rfl)) (fun _ _ _ _ _ => (qg_name 8 sc_law_reduced.nd)) (fun _ _ _ _ _ => qts_nil) (fun _ _ _ _ _ => (QE.v (qe_call h_law_rid (hr.mono (by decide)) (qa_cons (qp_var 8) (qa_cons (qp_var 7) (qa_cons (qp_var 4) qa_nil))))))))
  (qss_cons (qs_setLc (own := [("line", 8)]) 3 rfl sc_law_reduced.nd (qf_seq (qv_var 3)) (blkOk_by (by rfl)) (fun _ _ _ _ _ => (qg_name 8 sc_law_reduced.nd)) (fun _ _ _ _ _ => qts_nil) (fun _ _ _ _ _ => (QE.v (qe_call h_law_rid (hr.mono (by decide)) (qa_cons (qp_var 8) (qa_cons (qp_var 7) (qa_cons (qp_var 4) qa_nil)))))))
  (qss_one (qs_expr (qe_append 3 (qv_var 7))))))) qss_nil))))
  (qss_one (qs_ret (qe_lst (ql_cons (qv_var 3) (ql_cons (qv_var 2) ql_nil))))))))

theorem map_erase {α β : Type} (f : α → β) : ∀ (l : List α) (i : Nat), (l.map f).eraseIdx i = (l.eraseIdx i).map f
  | [], _ => rfl
  | _ :: _, 0 => rfl
  | x :: l, i + 1 => by
    show f x :: (l.map f).eraseIdx i = f x :: (l.eraseIdx i).map f
    rw [map_erase f l i]
theorem firstAt_filter (left : List (List Int)) (s : Nat) : firstAt left s = ((List.range left.length).filter fun i => decide ((left.getD i []).getD s 0 ≠ 0)).head? := by
  unfold firstAt
  rw [List.head?_filter]
theorem m_law_reduced (os : List O) (Q : O → List O → Prop) (h : sp_law_reduced os Q) : Ends r_law_reduced n_law_reduced os Q := by
  obtain ⟨lines, n, w, rfl, hn, hw, hok, hg, q⟩ := h
  walk_at "go"
  · refine ⟨fun j e => ∃ o4 o5 o7, e = [some (.d (.list (lines.map rowI))), some (.d (.int (n : Nat))), some (.own (((List.range j).foldl stepR ([], lines)).2.map rowI)), some (.own (((List.range j).foldl stepR ([], lines)).1.map rowI)), o4, o5, none, o7, none], ⟨none, none, none, rfl⟩, ?_, ?_⟩
    · rintro j x e hx ⟨o4, o5, o7, rfl⟩
      obtain ⟨ex, hj⟩ := rngD_at hx
      have hj : j < n := by omega
      have ez : (0 + (j : Nat) : Int) = ((j : Nat) : Int) := Int.zero_add _
      rw [ez] at ex
      subst ex
      have stp : (List.range (j + 1)).foldl stepR ([], lines) = stepR ((List.range j).foldl stepR ([], lines)) j := by
        rw [List.range_succ, List.foldl_append]
        rfl
      have ok := hok j (by omega)
      have gg := hg j hj
      generalize (List.range j).foldl stepR ([], lines) = st at *
      obtain ⟨D0, L0⟩ := st
      have few := ok.few
      dsimp only at few
      let nz : D → Bool := fun d => match d with
        | .int i => decide ((L0.getD i.toNat []).getD j 0 ≠ 0)
        | _ => false
      walk_at "go"
      · refine lc_filterE (p := nz) (g := id) (fun e => e = [some (.d (.list (lines.map rowI))), some (.d (.int (n : Nat))), some (.own (L0.map rowI)), some (.own (D0.map rowI)), some (.d (.int (j : Nat))), o5, none, o7, none]) rfl (by rw [rngD_len, List.length_map]; show ((L0.length : Int) - 0).toNat ≤ 1000; omega) ?_ ?_
        · rintro i x k1 k2 _ rfl hx h1 h2
          obtain ⟨ex, hi⟩ := rngD_at hx
          have hi : i < L0.length := by
            rw [List.length_map] at hi
            have : i < ((L0.length : Int) - 0).toNat := hi
            omega
          have ez : (0 + (i : Nat) : Int) = ((i : Nat) : Int) := Int.zero_add _
          rw [ez] at ex
          subst ex
          obtain ⟨r, hr, hrm⟩ := getAt hi
          obtain ⟨v, hv, _⟩ := getAt (show j < r.length by rw [ok.wide r (List.mem_append_right _ hrm)]; omega)
          have enz : nz (.int (i : Nat)) = decide (v ≠ 0) := by
            show decide ((L0.getD ((i : Nat) : Int).toNat []).getD j 0 ≠ 0) = _
            rw [Int.toNat_natCast, List.getD_eq_getElem?_getD (l := L0), hr]
            show decide (r.getD j 0 ≠ 0) = _
            rw [List.getD_eq_getElem?_getD, hv]
            rfl
          walk_at "go"
          refine ⟨_, atI_map (f := rowI) hr, ?_⟩
          walk_at "go"
          refine ⟨_, atI_map (f := PyData.int) hv, ?_⟩
          walk_at "wh"
          refine decI (fun h => ?_) (fun h => ?_)
          · have h : (!decide (v = 0)) = true := h
            walk_at "wh"
            exact h1 (by rw [enz]; simpa using h) _ rfl
          · have h : ¬ (!decide (v = 0)) = true := h
            walk_at "wh"
            exact h2 (by rw [enz]; simpa using h) _ rfl
        rintro e rfl
        have efl : ((rngD 0 ((L0.map rowI).length : Nat)).filter nz).map id = natD ((List.range L0.length).filter fun i => decide ((L0.getD i []).getD j 0 ≠ 0)) := by
          rw [List.length_map, rngD_nat, List.map_id]
          unfold natD
          rw [List.filter_map]
          rfl
        rw [efl]
        have efa := firstAt_filter L0 j
        walk_at "go"
        refine decI (fun h => ?_) (fun h => ?_)
        · have h : decide ((0 : Int) < ((natD ((List.range L0.length).filter fun i => decide ((L0.getD i []).getD j 0 ≠ 0))).length : Nat)) = true := h
          rw [natD_len] at h
          generalize hfl : ((List.range L0.length).filter fun i => decide ((L0.getD i []).getD j 0 ≠ 0)) = fl at *
          cases fl with
          | nil => simp at h
          | cons i rest =>
            have him : i ∈ (List.range L0.length).filter fun i => decide ((L0.getD i []).getD j 0 ≠ 0) := by rw [hfl]; exact List.mem_cons_self
            have hi : i < L0.length := List.mem_range.mp (List.mem_filter.mp him).1
            obtain ⟨ld, hld, hldm⟩ := getAt hi
            have es : stepR (D0, L0) j = ((D0.map fun r => ridL r ld j) ++ [ld], (L0.eraseIdx i).map fun r => ridL r ld j) := by
              unfold stepR
              dsimp only
              rw [efa]
              show ((D0.map fun r => ridL r (L0.getD i []) j) ++ [L0.getD i []], (L0.eraseIdx i).map fun r => ridL r (L0.getD i []) j) = _
              rw [show L0.getD i [] = ld by rw [List.getD_eq_getElem?_getD, hld]; rfl]
            have seq : seqIndex? (i : Int) (L0.map rowI).length = some i := by
              unfold seqIndex?
              rw [List.length_map]
              have h1 : ¬ ((i : Int) < 0) := by omega
              simp [h1, hi]
            walk_at "go"
            refine ⟨.int (i : Nat), atI_map (f := fun n : Nat => PyData.int (n : Nat)) (xs := i :: rest) (i := 0) rfl, ?_⟩
            walk_at "wh"
            refine ⟨i, rowI ld, by omega, by omega, seq, by rw [List.getElem?_map, hld]; rfl, ?_⟩
            have eer : (L0.map rowI).eraseIdx i = (L0.eraseIdx i).map rowI := by
              exact map_erase _ _ _
            have lw := ok.wide ld (List.mem_append_right _ hldm)
            have lel : (L0.eraseIdx i).length ≤ 400 := by
              rw [List.length_eraseIdx]
              split <;> omega
            walk_at "wh"
            rw [eer]
            refine lc_mapE (fun e => e = [some (.d (.list (lines.map rowI))), some (.d (.int (n : Nat))), some (.d (.list ((L0.eraseIdx i).map rowI))), some (.own (D0.map rowI)), some (.d (.int (j : Nat))), some (.own (natD (i :: rest))), none, some (.d (rowI ld)), none]) (ys := ((L0.eraseIdx i).map fun r => ridL r ld j).map rowI) rfl (by simp) (by rw [List.length_map]; omega) ?_ ?_
            · rintro a x y k' _ rfl hx hy hk'
              obtain ⟨r, hr, rfl⟩ := get_map hx
              rw [List.getElem?_map, List.getElem?_map, hr] at hy
              have hy2 : y = rowI (ridL r ld j) := (Option.some.inj hy).symm
              subst hy2
              walk_at "wh"
              have hrm : r ∈ D0 ++ L0 := List.mem_append_right _ (List.mem_of_mem_eraseIdx (List.mem_of_getElem? hr))
              exact ⟨r, ld, j, rfl, by rw [ok.wide r hrm, lw], by rw [ok.wide r hrm]; omega, by rw [ok.wide r hrm]; omega, ok.fit r hrm, ok.fit ld (List.mem_append_right _ hldm), gg ld hldm r hrm, hk' _ rfl⟩
            rintro e rfl
            walk_at "wh"
            refine lc_mapE (fun e => e = [some (.d (.list (lines.map rowI))), some (.d (.int (n : Nat))), some (.own (((L0.eraseIdx i).map fun r => ridL r ld j).map rowI)), some (.d (.list (D0.map rowI))), some (.d (.int (j : Nat))), some (.own (natD (i :: rest))), none, some (.d (rowI ld)), none]) (ys := (D0.map fun r => ridL r ld j).map rowI) rfl (by simp) (by rw [List.length_map]; omega) ?_ ?_
            · rintro a x y k' _ rfl hx hy hk'
              obtain ⟨r, hr, rfl⟩ := get_map hx
              rw [List.getElem?_map, List.getElem?_map, hr] at hy
              have hy2 : y = rowI (ridL r ld j) := (Option.some.inj hy).symm
              subst hy2
              walk_at "wh"
              have hrm : r ∈ D0 ++ L0 := List.mem_append_left _ (List.mem_of_getElem? hr)
              exact ⟨r, ld, j, rfl, by rw [ok.wide r hrm, lw], by rw [ok.wide r hrm]; omega, by rw [ok.wide r hrm]; omega, ok.fit r hrm, ok.fit ld (List.mem_append_right _ hldm), gg ld hldm r hrm, hk' _ rfl⟩
            rintro e rfl
            walk_at "go"
            · rw [stp, es]
              refine ⟨some (.d (.int (j : Nat))), some (.own (natD (i :: rest))), some (.d (rowI ld)), ?_⟩
              rw [List.map_append]
              rfl
            · rw [List.length_map, List.length_map]
              exact Pf.small64 (by omega)
        · have h : ¬ decide ((0 : Int) < ((natD ((List.range L0.length).filter fun i => decide ((L0.getD i []).getD j 0 ≠ 0))).length : Nat)) = true := h
          rw [natD_len] at h
          have h0 : ((List.range L0.length).filter fun i => decide ((L0.getD i []).getD j 0 ≠ 0)) = [] := by
            refine List.eq_nil_of_length_eq_zero ?_
            have : ¬ (0 : Int) < (((List.range L0.length).filter fun i => decide ((L0.getD i []).getD j 0 ≠ 0)).length : Nat) := by simpa using h
            omega
          rw [h0] at efa
          have es : stepR (D0, L0) j = (D0, L0) := by
            unfold stepR
            dsimp only
            rw [efa]
            rfl
          walk_at "wh"
          rw [stp, es]
          exact ⟨_, _, _, rfl⟩
      · show ((L0.map rowI).length : Int) < 2 ^ 62
        rw [List.length_map]
        omega
      · show -2 ^ 62 ≤ ((L0.map rowI).length : Int)
        rw [List.length_map]
        omega
    · rintro e ⟨o4, o5, o7, rfl⟩
      rw [show (rngD 0 (n : Int)).length = n by rw [rngD_len]; omega]
      walk_at "go"
      · exact q
      · exact (by decide : 2 ≤ sizeLine)
  · omega
  · omega
  · exact Nat.zero_le _
theorem f_law_reduced {P : Program} {w : World} {K : Fg} {mg : Str → Option Value} {base : Heap} {f : Addr} {fd : FuncData} (g : Gs K mg) (h_law_rid : Has P w K mg base "_law_rid" ["line", "lead", "spot"] 2 sp_law_rid) (F : Fun K "_law_reduced" "_law_reduced" s_law_reduced f fd) : FnOk P w K mg base CX0 3 f fd ["lines", "many"] (SpOf K sp_law_reduced) :=
  fn_ok F sc_law_reduced [] (fun cdv A outer s H E hr => q_law_reduced g h_law_rid cdv A outer s H E hr) (by walk_at "len") (by walk_at "keep") m_law_reduced
theorem mono_law_reduced : sp_law_reduced.Mono := by walk_at "mono"

end K82
set_option Elab.async false
set_option linter.all false
set_option maxRecDepth 100000
set_option maxHeartbeats 4000000
set_option exponentiation.threshold 10000
/-! La: the row form that the program makes is one. -/
namespace La
open PySem PySem.Spec PyProof.Rows L2 Pf K82
theorem lcmF_dvd : ∀ (l : List Rat) (a : Nat), a ∣ l.foldl (fun l x => Nat.lcm l x.den) a ∧ ∀ x ∈ l, x.den ∣ l.foldl (fun l x => Nat.lcm l x.den) a
  | [], a => ⟨Nat.dvd_refl a, by simp⟩
  | x :: l, a => by
    obtain ⟨h1, h2⟩ := lcmF_dvd l (Nat.lcm a x.den)
    refine ⟨Nat.dvd_trans (Nat.dvd_lcm_left ..) h1, fun y hy => ?_⟩
    rcases List.mem_cons.mp hy with hy | hy
    · rw [hy]; exact Nat.dvd_trans (Nat.dvd_lcm_right ..) h1
    · exact h2 y hy
theorem den_dvd {row : List Rat} {x : Rat} (h : x ∈ row) : x.den ∣ lcmDen row := (lcmF_dvd row 1).2 x h
theorem lcmF_of (d : Nat) : ∀ (l : List Rat) (a : Nat), a ∣ d → (∀ x ∈ l, x.den ∣ d) → l.foldl (fun l x => Nat.lcm l x.den) a ∣ d
  | [], a, h, _ => h
  | x :: l, a, h, hl => lcmF_of d l _ (Nat.lcm_dvd h (hl x List.mem_cons_self)) fun y hy => hl y (List.mem_cons_of_mem _ hy)
theorem lcm_dvd {row : List Rat} {d : Nat} (h : ∀ x ∈ row, x.den ∣ d) : lcmDen row ∣ d := lcmF_of d row 1 (Nat.one_dvd d) h
theorem lcmF_pos : ∀ (l : List Rat) (a : Nat), 0 < a → 0 < l.foldl (fun l x => Nat.lcm l x.den) a
  | [], a, h => h
  | x :: l, a, h => lcmF_pos l _ (Nat.lcm_pos h x.den_pos)
theorem lcm_pos (row : List Rat) : 0 < lcmDen row := lcmF_pos row 1 (by decide)
theorem scale_at (row : List Rat) (x : Nat) : (((scaleRow row).getD x 0 : Int) : Rat) = (lcmDen row : Rat) * row.getD x 0 := by
  unfold scaleRow
  rw [List.getD_eq_getElem?_getD, List.getElem?_map, List.getD_eq_getElem?_getD (l := row)]
  cases e : row[x]? with
  | none => show ((0 : Int) : Rat) = _ * (0 : Rat); grind
  | some y =>
    show ((Int.fdiv (lcmDen row) y.den * y.num : Int) : Rat) = (lcmDen row : Rat) * y
    obtain ⟨q, hq⟩ := den_dvd (List.mem_of_getElem? e)
    have hd := y.den_nz
    rw [hq]
    have e1 : Int.fdiv ((y.den * q : Nat) : Int) (y.den : Int) = (q : Int) := by
      rw [Int.natCast_mul, Int.mul_fdiv_cancel_left _ (by omega)]
    rw [e1, Rat.intCast_mul, Rat.natCast_mul]
    have e2 : y * (y.den : Rat) = (y.num : Rat) := q_den y
    have e3 : ((q : Int) : Rat) = (q : Rat) := Rat.intCast_natCast q
    rw [e3]
    grind
theorem scaleRow_len (row : List Rat) : (scaleRow row).length = row.length := List.length_map _
theorem divInt_as (a b : Int) : Rat.divInt a b = (a : Rat) / (b : Rat) := Rat.divInt_eq_div a b
/-- what is made of a row of the elimination -/
theorem norm_vec {n : Nat} {r : List Rat} {k : Nat} (hr : r.length = n + 1) (hk : k < n) (h1 : r.getD k 0 ≠ 0) (h0 : ∀ x, x < k → r.getD x 0 = 0) :
    ∃ q : Rat, q ≠ 0 ∧ (∀ x, vecS (normRow (r.take n) (r.getD n 0)) x = q * r.getD x 0) ∧ (normRow (r.take n) (r.getD n 0)).1.length = n ∧ gcdAll (normRow (r.take n) (r.getD n 0)).1 = 1 ∧ 0 < (normRow (r.take n) (r.getD n 0)).1.getD k 0 := by
  have ht : ∀ x, x < n → (r.take n).getD x 0 = r.getD x 0 := fun x hx => by
    rw [List.getD_eq_getElem?_getD, List.getElem?_take_of_lt hx, List.getD_eq_getElem?_getD]
  have hl : (r.take n).length = n := by rw [List.length_take]; omega
  generalize hrow : r.take n = row at *
  have hL := lcm_pos row
  have hLr : (lcmDen row : Rat) ≠ 0 := by
    intro z
    have : (lcmDen row : Rat) = ((0 : Nat) : Rat) := z
    have := Rat.natCast_inj.mp this
    omega
  have lead : LeadI (scaleRow row) k := by
    refine ⟨fun z => ?_, fun j hj => ?_⟩
    · have := scale_at row k
      rw [z, ht k hk] at this
      have e0 : ((0 : Int) : Rat) = 0 := rfl
      rw [e0] at this
      grind
    · have := scale_at row j
      rw [ht j (by omega), h0 j hj] at this
      have e0 : ((0 : Int) : Rat) = 0 := rfl
      have : (((scaleRow row).getD j 0 : Int) : Rat) = ((0 : Int) : Rat) := by rw [this, e0]; grind
      exact Rat.intCast_inj.mp this
  have nn := normed lead
  have gq : ((sgnGcd (scaleRow row) : Int) : Rat) ≠ 0 := fun z => nn.g0 (Rat.intCast_inj.mp (show ((sgnGcd (scaleRow row) : Int) : Rat) = ((0 : Int) : Rat) from z))
  refine ⟨(lcmDen row : Rat) / ((sgnGcd (scaleRow row) : Int) : Rat), by grind, fun x => ?_, ?_, nn.gcd, nn.pos⟩
  · have hlen : (normRow row (r.getD n 0)).1.length = n := by
      show (normInts row).length = n
      unfold normInts
      rw [List.length_map, scaleRow_len, hl]
    by_cases hx : x < n
    · rw [vecS_part (by omega)]
      have e := nn.at' x
      have e2 := scale_at row x
      rw [e, Rat.intCast_mul, ht x hx] at e2
      show (((normInts row).getD x 0 : Int) : Rat) = _
      unfold normInts
      grind
    · by_cases hx2 : x = n
      · subst hx2
        have : vecS (normRow row (r.getD x 0)) x = (normRow row (r.getD x 0)).2 := by
          have := vecS_due (s := normRow row (r.getD x 0))
          rw [hlen] at this
          exact this
        rw [this]
        show r.getD x 0 * Rat.divInt (lcmDen row : Nat) (sgnGcd (scaleRow row)) = _
        rw [divInt_as, Rat.intCast_natCast]
        grind
      · rw [vecS_far (by omega), getD_far (by omega)]
        grind
  · show (normInts row).length = n
    unfold normInts
    rw [List.length_map, scaleRow_len, hl]
theorem red_all {n : Nat} {rows : List Sm} (hw : ∀ s ∈ rows, s.1.length = n) : RInv n (fun w => ∃ s, s ∈ rows ∧ w = vecS s) n (red n rows) := red_inv hw n
theorem formP_len {n : Nat} {rows : List Sm} (hw : ∀ s ∈ rows, s.1.length = n) : (formP n rows).length = (red n rows).2.length := by
  unfold formP
  rw [List.length_map, List.length_take]
  have := (red_all hw).few
  omega
/-- one row of the form -/
theorem formP_at {n : Nat} {rows : List Sm} (hw : ∀ s ∈ rows, s.1.length = n) {i l : Nat} (g : (red n rows).2[i]? = some l) :
    ∃ s, (formP n rows)[i]? = some s ∧ ∃ q : Rat, q ≠ 0 ∧ (∀ x, vecS s x = q * at2 (red n rows).1 i x) ∧ s.1.length = n ∧ gcdAll s.1 = 1 ∧ 0 < s.1.getD l 0 := by
  have h := red_all hw
  have hi : i < (red n rows).2.length := (List.getElem?_eq_some_iff.mp g).1
  have hm : i < (red n rows).1.length := by have := h.few; omega
  have er : (red n rows).1[i]? = some (red n rows).1[i] := List.getElem?_eq_getElem hm
  have ea : ∀ x, ((red n rows).1[i]).getD x 0 = at2 (red n rows).1 i x := fun x => by
    unfold at2
    rw [getD_at er]
  refine ⟨normRow (((red n rows).1[i]).take n) (((red n rows).1[i]).getD n 0), ?_, ?_⟩
  · unfold formP
    rw [List.getElem?_map, List.getElem?_take_of_lt hi, er]
    rfl
  · obtain ⟨q, q0, q1, q2⟩ := norm_vec (h.wide _ (List.getElem_mem hm)) (h.lt i l g) (by rw [ea, h.one i l g]; decide) (fun x hx => by rw [ea, h.low i l x g hx])
    exact ⟨q, q0, fun x => by rw [q1, ea], q2⟩
theorem formP_ech {n : Nat} {rows : List Sm} (hw : ∀ s ∈ rows, s.1.length = n) : Rnf n (formP n rows) := by
  have h := red_all hw
  have hl := formP_len hw
  have gl : ∀ {i}, i < (red n rows).2.length → (red n rows).2[i]? = some ((red n rows).2.getD i 0) := fun {i} hi => by
    rw [List.getD_eq_getElem?_getD, List.getElem?_eq_getElem hi]
    rfl
  have ev : ∀ {i}, i < (red n rows).2.length → ∃ q : Rat, q ≠ 0 ∧ ∀ x, atS (formP n rows) i x = q * at2 (red n rows).1 i x := fun {i} hi => by
    obtain ⟨s, e, q, q0, q1, _⟩ := formP_at hw (gl hi)
    exact ⟨q, q0, fun x => by unfold atS; rw [getD_at e]; exact q1 x⟩
  refine ⟨fun i => (red n rows).2.getD i 0, ⟨fun i hi => ?_, fun i j ij hj => ?_, fun i hi => ?_, fun i j hi hj ne => ?_, fun i c hi hc => ?_⟩, fun i s e => ?_⟩
  · exact h.lt i _ (gl (by omega))
  · exact h.inc i j _ _ ij (gl (by omega)) (gl (by omega))
  · obtain ⟨q, q0, q1⟩ := ev (i := i) (by omega)
    rw [q1, h.one i _ (gl (by omega))]
    grind
  · obtain ⟨q, q0, q1⟩ := ev (i := i) (by omega)
    rw [q1, h.off j i _ (gl (by omega)) ne]
    grind
  · obtain ⟨q, q0, q1⟩ := ev (i := i) (by omega)
    rw [q1, h.low i _ c (gl (by omega)) hc]
    grind
  · have hi := (List.getElem?_eq_some_iff.mp e).1
    obtain ⟨s', e', q, _, _, q2, q3, q4⟩ := formP_at hw (gl (i := i) (by omega))
    rw [e] at e'
    cases e'
    exact ⟨q2, q3, q4⟩
theorem formP_sub {n : Nat} {rows : List Sm} (hw : ∀ s ∈ rows, s.1.length = n) : ∀ s ∈ formP n rows, SpS rows (vecS s) := fun s hs => by
  have h := red_all hw
  obtain ⟨i, hi, e⟩ := List.getElem_of_mem hs
  have hi2 : i < (red n rows).2.length := by rw [← formP_len hw]; exact hi
  obtain ⟨s', e', q, q0, q1, _⟩ := formP_at hw (List.getElem?_eq_getElem hi2)
  rw [List.getElem?_eq_getElem hi, e] at e'
  cases e'
  exact ((h.sub i).smul q).cast fun x => (q1 x).symm
/-- what follows and has no parts has no due: the book has a world -/
def Snd (n : Nat) (rows : List Sm) : Prop := ∀ v, SpS rows v → (∀ x, x < n → v x = 0) → ∀ c, v c = 0
theorem Snd.of {n : Nat} {rows E : List Sm} (hE : Rnf n E) (hs : ∀ s ∈ rows, SpS E (vecS s)) : Snd n rows := fun v hv h0 c => hE.null (hv.trans hs) h0 c
/-- rows behind the leads are nothing at all, where the book has a world -/
theorem red_rest {n : Nat} {rows : List Sm} (hw : ∀ s ∈ rows, s.1.length = n) (sd : Snd n rows) {j : Nat} (hj : (red n rows).2.length ≤ j) (x : Nat) : at2 (red n rows).1 j x = 0 := by
  have h := red_all hw
  exact sd _ (h.sub j) (fun i hi => h.nil j i hj hi) x
theorem void_no {n : Nat} {rows : List Sm} (hw : ∀ s ∈ rows, s.1.length = n) (sd : Snd n rows) : voidB n rows = false := by
  unfold voidB
  rw [List.any_eq_false]
  intro r hr
  obtain ⟨i, hi, e⟩ := List.getElem_of_mem hr
  rw [List.getElem_drop] at e
  have hi' : (red n rows).2.length + i < (red n rows).1.length := by
    rw [List.length_drop] at hi
    omega
  have := red_rest hw sd (j := (red n rows).2.length + i) (by omega) n
  unfold at2 at this
  rw [getD_at (List.getElem?_eq_getElem hi'), e] at this
  simpa using this
theorem formP_sup {n : Nat} {rows : List Sm} (hw : ∀ s ∈ rows, s.1.length = n) (sd : Snd n rows) : ∀ s ∈ rows, SpS (formP n rows) (vecS s) := fun s hs' => by
  have h := red_all hw
  refine (h.sup _ ⟨s, hs', rfl⟩).trans fun w ⟨j, e⟩ => ?_
  subst e
  by_cases hj : j < (red n rows).2.length
  · obtain ⟨s', e', q, q0, q1, _⟩ := formP_at hw (List.getElem?_eq_getElem hj)
    exact ((SpS.of (List.mem_of_getElem? e')).smul (1 / q)).cast fun x => by rw [q1]; grind
  · exact Spn.zero.cast fun x => (red_rest hw sd (by omega) x).symm
/-- the row form of a book that spans what a form spans is that form -/
theorem formP_eq {n : Nat} {rows E : List Sm} (hw : ∀ s ∈ rows, s.1.length = n) (hE : Rnf n E) (hs : ∀ s ∈ rows, SpS E (vecS s)) (hs' : ∀ s ∈ E, SpS rows (vecS s)) : formP n rows = E :=
  hE.uniq (formP_ech hw) (fun s h => (formP_sub hw s h).trans hs) fun s h => (hs' s h).trans (formP_sup hw (.of hE hs))
end La
set_option Elab.async false
set_option linter.all false
set_option maxRecDepth 100000
set_option maxHeartbeats 4000000
set_option exponentiation.threshold 10000
/-! La: the law's own elimination brings about a row form, too. -/
namespace La
open PySem PySem.Spec PyProof.Rows L2 Pf K82
def vecI (r : List Int) : Vec := fun i => ((r.getD i 0 : Int) : Rat)
theorem i0 : ((0 : Int) : Rat) = 0 := rfl
theorem i_ne {a : Int} (h : a ≠ 0) : (a : Rat) ≠ 0 := fun z => h (Rat.intCast_inj.mp (show (a : Rat) = ((0 : Int) : Rat) from z))
theorem i_eq {a : Int} (h : (a : Rat) = 0) : a = 0 := Rat.intCast_inj.mp (show (a : Rat) = ((0 : Int) : Rat) from h)
theorem fresh_at {line lead : List Int} {s : Nat} (hl : line.length = lead.length) (x : Nat) : (freshL line lead s).getD x 0 = line.getD x 0 * lead.getD s 0 - lead.getD x 0 * line.getD s 0 := by
  unfold freshL
  by_cases h : x < line.length
  · rw [List.getD_eq_getElem?_getD, List.getElem?_zipWith, List.getD_eq_getElem?_getD (l := line) (i := x), List.getD_eq_getElem?_getD (l := lead) (i := x), List.getElem?_eq_getElem h, List.getElem?_eq_getElem (show x < lead.length by omega)]
    rfl
  · rw [getD_far (by rw [List.length_zipWith]; omega), getD_far (show line.length ≤ x by omega), getD_far (show lead.length ≤ x by omega)]
    simp
theorem fresh_len {line lead : List Int} {s : Nat} (hl : line.length = lead.length) : (freshL line lead s).length = line.length := by
  unfold freshL
  rw [List.length_zipWith]
  omega
theorem rid_len {line lead : List Int} {s : Nat} (hl : line.length = lead.length) : (ridL line lead s).length = line.length := by
  unfold ridL
  split
  · rfl
  · split
    · rw [List.length_map, fresh_len hl]
    · exact fresh_len hl
theorem rid_vec {line lead : List Int} {s : Nat} (hl : line.length = lead.length) (h0 : lead.getD s 0 ≠ 0) : ∃ a b : Rat, a ≠ 0 ∧ (∀ x, vecI (ridL line lead s) x = a * vecI line x + b * vecI lead x) ∧ vecI (ridL line lead s) s = 0 := by
  have hf : ∀ x, vecI (freshL line lead s) x = vecI lead s * vecI line x + (- vecI line s) * vecI lead x := fun x => by
    unfold vecI
    rw [fresh_at hl, Rat.intCast_sub, Rat.intCast_mul, Rat.intCast_mul]
    grind
  have hn : vecI lead s ≠ 0 := i_ne h0
  unfold ridL
  split
  · rename_i e
    exact ⟨1, 0, by decide, fun x => by grind, by unfold vecI; rw [e]; rfl⟩
  · split
    · rename_i hg
      have hat : ∀ x, vecI ((freshL line lead s).map fun c => c.fdiv (gcdAll (freshL line lead s))) x = 1 / ((gcdAll (freshL line lead s) : Int) : Rat) * vecI (freshL line lead s) x := fun x => by
        unfold vecI
        rw [List.getD_eq_getElem?_getD, List.getElem?_map, List.getD_eq_getElem?_getD (l := freshL line lead s)]
        cases e : (freshL line lead s)[x]? with
        | none => show ((0 : Int) : Rat) = _ * ((0 : Int) : Rat); rw [i0]; grind
        | some y =>
          show ((y.fdiv (gcdAll (freshL line lead s) : Int) : Int) : Rat) = _ * (y : Rat)
          have hd : (gcdAll (freshL line lead s) : Int) ∣ y := by
            rw [← Int.natAbs_dvd_natAbs, Int.natAbs_natCast]
            exact gcdAll_dvd (List.mem_of_getElem? e)
          have e1 := Int.mul_fdiv_cancel' hd
          have hgr : ((gcdAll (freshL line lead s) : Int) : Rat) ≠ 0 := i_ne (by omega)
          have e2 : ((gcdAll (freshL line lead s) : Int) : Rat) * ((y.fdiv (gcdAll (freshL line lead s) : Int) : Int) : Rat) = (y : Rat) := by rw [← Rat.intCast_mul, e1]
          rw [← e2]
          grind
      have hgr : ((gcdAll (freshL line lead s) : Int) : Rat) ≠ 0 := i_ne (by omega)
      refine ⟨vecI lead s / ((gcdAll (freshL line lead s) : Int) : Rat), - vecI line s / ((gcdAll (freshL line lead s) : Int) : Rat), by grind, fun x => by rw [hat, hf]; grind, by rw [hat, hf]; grind⟩
    · exact ⟨vecI lead s, - vecI line s, hn, hf, by rw [hf]; grind⟩
structure LInv (n : Nat) (S0 : Vec → Prop) (c : Nat) (st : List (List Int) × List (List Int)) (L : Nat → Nat) : Prop where
  wide : ∀ r ∈ st.1 ++ st.2, r.length = n + 1
  lt : ∀ i, i < st.1.length → L i < c
  inc : ∀ i j, i < j → j < st.1.length → L i < L j
  one : ∀ (i : Nat) (r : List Int), st.1[i]? = some r → vecI r (L i) ≠ 0
  off : ∀ (i j : Nat) (r : List Int), i < st.1.length → st.1[j]? = some r → j ≠ i → vecI r (L i) = 0
  low : ∀ (i : Nat) (r : List Int) (x : Nat), st.1[i]? = some r → x < L i → vecI r x = 0
  nil : ∀ r ∈ st.2, ∀ x, x < c → vecI r x = 0
  sub : ∀ r ∈ st.1 ++ st.2, Spn S0 (vecI r)
  sup : ∀ w, S0 w → Spn (fun w => ∃ r, r ∈ st.1 ++ st.2 ∧ w = vecI r) w
theorem firstAt_spec {left : List (List Int)} {s i : Nat} (h : firstAt left s = some i) : i < left.length ∧ (left.getD i []).getD s 0 ≠ 0 := by
  unfold firstAt at h
  have h1 := List.mem_of_find?_eq_some h
  have h2 := List.find?_some h
  exact ⟨List.mem_range.mp h1, by simpa using h2⟩
theorem firstAt_no {left : List (List Int)} {s : Nat} (h : firstAt left s = none) : ∀ r ∈ left, r.getD s 0 = 0 := fun r hr => by
  obtain ⟨i, hi, e⟩ := List.getElem_of_mem hr
  unfold firstAt at h
  rw [List.find?_eq_none] at h
  have := h i (List.mem_range.mpr hi)
  rw [getD_at (List.getElem?_eq_getElem hi), e] at this
  simpa using this
theorem mem_split {α : Type} : ∀ {l : List α} {i : Nat} {x y : α}, l[i]? = some x → y ∈ l → y = x ∨ y ∈ l.eraseIdx i
  | [], _, _, _, h, _ => by simp at h
  | z :: l, 0, x, y, h, hy => by
    have : z = x := by simpa using h
    subst this
    rcases List.mem_cons.mp hy with hy | hy
    · exact .inl hy
    · exact .inr hy
  | z :: l, i + 1, x, y, h, hy => by
    rcases List.mem_cons.mp hy with hy | hy
    · exact .inr (by rw [hy]; exact List.mem_cons_self)
    · rcases mem_split (l := l) (i := i) (x := x) (by simpa using h) hy with h | h
      · exact .inl h
      · exact .inr (List.mem_cons_of_mem _ h)
theorem LInv.step {n : Nat} {S0 : Vec → Prop} {c : Nat} {st : List (List Int) × List (List Int)} {L : Nat → Nat} (h : LInv n S0 c st L) : ∃ L', LInv n S0 (c + 1) (stepR st c) L' := by
  unfold stepR
  split
  · rename_i e
    have hz := firstAt_no e
    exact ⟨L, h.wide, fun i hi => by have := h.lt i hi; omega, h.inc, h.one, h.off, h.low, fun r hr x hx => by
      by_cases q : x = c
      · subst q
        unfold vecI
        rw [hz r hr]
        rfl
      · exact h.nil r hr x (by omega), h.sub, h.sup⟩
  · rename_i i e
    obtain ⟨hi, hne⟩ := firstAt_spec e
    obtain ⟨dn, lf⟩ := st
    dsimp only at *
    have eld : lf[i]? = some lf[i] := List.getElem?_eq_getElem hi
    have mld : lf[i] ∈ lf := List.getElem_mem hi
    rw [getD_at eld] at hne ⊢
    generalize lf[i] = lead at *
    have wl := h.wide lead (List.mem_append_right _ mld)
    have ln := h.nil lead mld
    have rv : ∀ r ∈ dn ++ lf, ∃ a b : Rat, a ≠ 0 ∧ (∀ x, vecI (ridL r lead c) x = a * vecI r x + b * vecI lead x) ∧ vecI (ridL r lead c) c = 0 := fun r hr => rid_vec (by rw [h.wide r hr, wl]) hne
    have hone : vecI lead c ≠ 0 := i_ne hne
    have gm : ∀ {j r}, (dn.map fun r => ridL r lead c)[j]? = some r → ∃ q, dn[j]? = some q ∧ q ∈ dn ++ lf ∧ r = ridL q lead c := fun {j r} g => by
      rw [List.getElem?_map] at g
      obtain ⟨q, e1, e2⟩ := Option.map_eq_some_iff.mp g
      exact ⟨q, e1, List.mem_append_left _ (List.mem_of_getElem? e1), e2.symm⟩
    have el : (dn.map fun r => ridL r lead c).length = dn.length := List.length_map _
    refine ⟨fun j => if j = dn.length then c else L j, fun r hr => ?_, fun j hj => ?_, fun a b ab hb => ?_, fun a r g => ?_, fun a j r ha g ne => ?_, fun a r x g hx => ?_, fun r hr x hx => ?_, fun r hr => ?_, fun w hw => ?_⟩
    · rcases List.mem_append.mp hr with hr | hr
      · rcases List.mem_append.mp hr with hr | hr
        · obtain ⟨q, hq, rfl⟩ := List.mem_map.mp hr
          have := h.wide q (List.mem_append_left _ hq)
          rw [rid_len (by omega)]; exact this
        · rw [List.mem_singleton.mp hr]; exact wl
      · obtain ⟨q, hq, rfl⟩ := List.mem_map.mp hr
        have := h.wide q (List.mem_append_right _ (List.mem_of_mem_eraseIdx hq))
        rw [rid_len (by omega)]; exact this
    · split
      · omega
      · have : j < dn.length := by rw [List.length_append, el, List.length_singleton] at hj; omega
        have := h.lt j this
        omega
    · rw [List.length_append, el, List.length_singleton] at hb
      rw [if_neg (show ¬ a = dn.length by omega)]
      split
      · exact h.lt a (show a < dn.length by omega)
      · exact h.inc a b ab (show b < dn.length by omega)
    · rcases snoc_get g with ⟨ha, g⟩ | ⟨ha, g⟩
      · rw [el] at ha
        obtain ⟨q, e1, e2, rfl⟩ := gm g
        obtain ⟨x, y, r1, r2, r3⟩ := rv q e2
        rw [if_neg (show ¬ a = dn.length by omega), r2, ln _ (h.lt a ha)]
        have := h.one a q e1
        grind
      · rw [el] at ha
        rw [if_pos ha, g]
        exact hone
    · rw [List.length_append, el, List.length_singleton] at ha
      rcases snoc_get g with ⟨hj, g⟩ | ⟨hj, g⟩
      · rw [el] at hj
        obtain ⟨q, e1, e2, rfl⟩ := gm g
        obtain ⟨x, y, r1, r2, r3⟩ := rv q e2
        split
        · exact r3
        · rename_i na
          rw [r2, ln _ (h.lt a (show a < dn.length by omega)), h.off a j q (show a < dn.length by omega) e1 ne]
          grind
      · rw [el] at hj
        rw [if_neg (by omega), g]
        exact ln _ (h.lt a (show a < dn.length by omega))
    · rcases snoc_get g with ⟨hj, g⟩ | ⟨hj, g⟩
      · rw [el] at hj
        obtain ⟨q, e1, e2, rfl⟩ := gm g
        obtain ⟨u, v, r1, r2, r3⟩ := rv q e2
        rw [if_neg (show ¬ a = dn.length by omega)] at hx
        have := h.lt a hj
        rw [r2, h.low a q x e1 hx, ln x (by omega)]
        grind
      · rw [el] at hj
        rw [if_pos hj] at hx
        rw [g]
        exact ln x hx
    · obtain ⟨q, hq, rfl⟩ := List.mem_map.mp hr
      have mq := List.mem_of_mem_eraseIdx hq
      obtain ⟨u, v, r1, r2, r3⟩ := rv q (List.mem_append_right _ mq)
      by_cases e : x = c
      · subst e; exact r3
      · rw [r2, h.nil q mq x (by omega), ln x (by omega)]
        grind
    · have hsl := h.sub lead (List.mem_append_right _ mld)
      have cmb : ∀ q ∈ dn ++ lf, Spn S0 (vecI (ridL q lead c)) := fun q hq => by
        obtain ⟨u, v, r1, r2, r3⟩ := rv q hq
        exact (((h.sub q hq).smul u).comb v hsl).cast fun x => (r2 x).symm
      rcases List.mem_append.mp hr with hr | hr
      · rcases List.mem_append.mp hr with hr | hr
        · obtain ⟨q, hq, rfl⟩ := List.mem_map.mp hr
          exact cmb q (List.mem_append_left _ hq)
        · rw [List.mem_singleton.mp hr]; exact hsl
      · obtain ⟨q, hq, rfl⟩ := List.mem_map.mp hr
        exact cmb q (List.mem_append_right _ (List.mem_of_mem_eraseIdx hq))
    · refine (h.sup w hw).trans fun v ⟨q, hq, ev⟩ => ?_
      subst ev
      have ml : Spn (fun w => ∃ r, r ∈ ((dn.map fun r => ridL r lead c) ++ [lead]) ++ ((lf.eraseIdx i).map fun r => ridL r lead c) ∧ w = vecI r) (vecI lead) := .of ⟨lead, by simp, rfl⟩
      have back : ∀ q ∈ dn ++ lf, ridL q lead c ∈ ((dn.map fun r => ridL r lead c) ++ [lead]) ++ ((lf.eraseIdx i).map fun r => ridL r lead c) → Spn (fun w => ∃ r, r ∈ ((dn.map fun r => ridL r lead c) ++ [lead]) ++ ((lf.eraseIdx i).map fun r => ridL r lead c) ∧ w = vecI r) (vecI q) := fun q hq hm => by
        obtain ⟨u, v, r1, r2, r3⟩ := rv q hq
        exact (((Spn.of ⟨_, hm, rfl⟩).smul (1 / u)).comb (-(v / u)) ml).cast fun x => by rw [r2]; grind
      rcases List.mem_append.mp hq with hq' | hq'
      · exact back q hq (List.mem_append_left _ (List.mem_append_left _ (List.mem_map_of_mem hq')))
      · rcases mem_split eld hq' with e | e
        · rw [e]; exact ml
        · exact back q hq (List.mem_append_right _ (List.mem_map_of_mem e))
theorem line_vec (s : Sm) (x : Nat) : vecI (lineL s) x = (s.2.den : Rat) * vecS s x := by
  unfold lineL vecI
  by_cases h : x < s.1.length
  · rw [vecS_part h, List.getD_eq_getElem?_getD, List.getElem?_append_left (by rw [List.length_map]; exact h), List.getElem?_map, List.getD_eq_getElem?_getD, List.getElem?_eq_getElem h]
    show ((s.1[x] * (s.2.den : Int) : Int) : Rat) = (s.2.den : Rat) * ((s.1[x] : Int) : Rat)
    rw [Rat.intCast_mul, Rat.intCast_natCast]
    grind
  · by_cases e : x = s.1.length
    · subst e
      rw [vecS_due, List.getD_eq_getElem?_getD, List.getElem?_append_right (by rw [List.length_map]; exact Nat.le_refl _), List.length_map, Nat.sub_self]
      show ((s.2.num : Int) : Rat) = _
      rw [Rat.mul_comm, q_den]
    · rw [vecS_far (by omega), getD_far (by rw [List.length_append, List.length_map, List.length_singleton]; omega), i0]
      grind
theorem line_len (s : Sm) : (lineL s).length = s.1.length + 1 := by
  unfold lineL
  rw [List.length_append, List.length_map]
  rfl
theorem LInv.start {n : Nat} {rows : List Sm} (hw : ∀ s ∈ rows, s.1.length = n) : LInv n (fun w => ∃ s, s ∈ rows ∧ w = vecS s) 0 ([], rows.map lineL) (fun _ => 0) := by
  refine ⟨fun r hr => ?_, by simp, by simp, by simp, by simp, by simp, fun _ _ _ h => by omega, fun r hr => ?_, fun w ⟨s, hs, e⟩ => ?_⟩
  · obtain ⟨s, hs, rfl⟩ := List.mem_map.mp (show r ∈ rows.map lineL from hr)
    rw [line_len, hw s hs]
  · obtain ⟨s, hs, rfl⟩ := List.mem_map.mp (show r ∈ rows.map lineL from hr)
    exact ((Spn.of ⟨s, hs, rfl⟩).smul (s.2.den : Rat)).cast fun x => (line_vec s x).symm
  · subst e
    refine ((Spn.of (S := fun w => ∃ r, r ∈ ([] : List (List Int)) ++ rows.map lineL ∧ w = vecI r) ⟨lineL s, List.mem_map_of_mem hs, rfl⟩).smul (1 / (s.2.den : Rat))).cast fun x => ?_
    rw [line_vec]
    have := den_ne0 s.2
    grind
theorem redL_inv {n : Nat} {rows : List Sm} (hw : ∀ s ∈ rows, s.1.length = n) : ∀ k, ∃ L, LInv n (fun w => ∃ s, s ∈ rows ∧ w = vecS s) k ((List.range k).foldl stepR ([], rows.map lineL)) L
  | 0 => ⟨_, LInv.start hw⟩
  | k + 1 => by
    obtain ⟨L, h⟩ := redL_inv hw k
    rw [List.range_succ, List.foldl_append]
    exact h.step
/-- the form that the law makes -/
def formL (n : Nat) (rows : List Sm) : List Sm := (redL (rows.map lineL) n).1.map fun r => sumL (r.take n) (r.getD n 0)
theorem sum_vec {n : Nat} {r : List Int} {k : Nat} (hr : r.length = n + 1) (hk : k < n) (h1 : r.getD k 0 ≠ 0) (h0 : ∀ x, x < k → r.getD x 0 = 0) :
    LeadI (r.take n) k ∧ ∃ q : Rat, q ≠ 0 ∧ (∀ x, vecS (sumL (r.take n) (r.getD n 0)) x = q * vecI r x) ∧ (sumL (r.take n) (r.getD n 0)).1.length = n ∧ gcdAll (sumL (r.take n) (r.getD n 0)).1 = 1 ∧ 0 < (sumL (r.take n) (r.getD n 0)).1.getD k 0 := by
  have ht : ∀ x, x < n → (r.take n).getD x 0 = r.getD x 0 := fun x hx => by
    rw [List.getD_eq_getElem?_getD, List.getElem?_take_of_lt hx, List.getD_eq_getElem?_getD]
  have hl : (r.take n).length = n := by rw [List.length_take]; omega
  have lead : LeadI (r.take n) k := ⟨by rw [ht k hk]; exact h1, fun j hj => by rw [ht j (by omega)]; exact h0 j hj⟩
  have nn := normed lead
  have gq := i_ne nn.g0
  have hlen : (sumL (r.take n) (r.getD n 0)).1.length = n := by
    show ((r.take n).map _).length = n
    rw [List.length_map, hl]
  refine ⟨lead, 1 / ((sgnGcd (r.take n) : Int) : Rat), by grind, fun x => ?_, hlen, nn.gcd, nn.pos⟩
  by_cases hx : x < n
  · rw [vecS_part (by omega)]
    have e := nn.at' x
    unfold vecI
    rw [← ht x hx, e, Rat.intCast_mul]
    show _ = 1 / ((sgnGcd (r.take n) : Int) : Rat) * (((sgnGcd (r.take n) : Int) : Rat) * (((sumL (r.take n) (r.getD n 0)).1.getD x 0 : Int) : Rat))
    grind
  · by_cases hx2 : x = n
    · subst hx2
      have : vecS (sumL (r.take x) (r.getD x 0)) x = (sumL (r.take x) (r.getD x 0)).2 := by
        have := vecS_due (s := sumL (r.take x) (r.getD x 0))
        rw [hlen] at this
        exact this
      rw [this]
      show Rat.divInt (r.getD x 0) (sgnGcd (r.take x)) = _
      unfold vecI
      rw [divInt_as]
      grind
    · unfold vecI
      rw [vecS_far (by omega), getD_far (by omega), i0]
      grind
section
variable {n : Nat} {rows E : List Sm}
theorem formL_at (hw : ∀ s ∈ rows, s.1.length = n) : ∃ L, LInv n (fun w => ∃ s, s ∈ rows ∧ w = vecS s) n (redL (rows.map lineL) n) L ∧ ∀ (i : Nat) (r : List Int), (redL (rows.map lineL) n).1[i]? = some r →
    ∃ s, (formL n rows)[i]? = some s ∧ LeadI (r.take n) (L i) ∧ ∃ q : Rat, q ≠ 0 ∧ (∀ x, vecS s x = q * vecI r x) ∧ s.1.length = n ∧ gcdAll s.1 = 1 ∧ 0 < s.1.getD (L i) 0 := by
  obtain ⟨L, h⟩ := redL_inv hw n
  have h : LInv n (fun w => ∃ s, s ∈ rows ∧ w = vecS s) n (redL (rows.map lineL) n) L := h
  refine ⟨L, h, fun i r e => ⟨sumL (r.take n) (r.getD n 0), ?_, ?_⟩⟩
  · unfold formL
    rw [List.getElem?_map, e]
    rfl
  · have hi := (List.getElem?_eq_some_iff.mp e).1
    exact sum_vec (h.wide r (List.mem_append_left _ (List.mem_of_getElem? e))) (h.lt i hi) (fun z => h.one i r e (by unfold vecI; rw [z]; rfl)) fun x hx => i_eq (h.low i r x e hx)
theorem formL_rnf (hw : ∀ s ∈ rows, s.1.length = n) : Rnf n (formL n rows) := by
  obtain ⟨L, h, f⟩ := formL_at hw
  have hl : (formL n rows).length = (redL (rows.map lineL) n).1.length := List.length_map _
  have ev : ∀ {i}, i < (formL n rows).length → ∃ r, (redL (rows.map lineL) n).1[i]? = some r ∧ ∃ q : Rat, q ≠ 0 ∧ ∀ x, atS (formL n rows) i x = q * vecI r x := fun {i} hi => by
    have er := List.getElem?_eq_getElem (l := (redL (rows.map lineL) n).1) (i := i) (by omega)
    obtain ⟨s, e, _, q, q0, q1, _⟩ := f i _ er
    exact ⟨_, er, q, q0, fun x => by unfold atS; rw [getD_at e]; exact q1 x⟩
  refine ⟨L, ⟨fun i hi => h.lt i (by omega), fun i j ij hj => h.inc i j ij (by omega), fun i hi => ?_, fun i j hi hj ne => ?_, fun i c hi hc => ?_⟩, fun i s e => ?_⟩
  · obtain ⟨r, er, q, q0, q1⟩ := ev hi
    have := h.one i r er
    rw [q1]
    grind
  · obtain ⟨r, er, q, q0, q1⟩ := ev hi
    rw [q1, h.off j i r (by omega) er ne]
    grind
  · obtain ⟨r, er, q, q0, q1⟩ := ev hi
    rw [q1, h.low i r c er hc]
    grind
  · have hi := (List.getElem?_eq_some_iff.mp e).1
    obtain ⟨s', e', _, q, _, _, q2, q3, q4⟩ := f i _ (List.getElem?_eq_getElem (l := (redL (rows.map lineL) n).1) (i := i) (by omega))
    rw [e] at e'
    cases e'
    exact ⟨q2, q3, q4⟩
theorem formL_sub (hw : ∀ s ∈ rows, s.1.length = n) : ∀ s ∈ formL n rows, SpS rows (vecS s) := fun s hs => by
  obtain ⟨L, h, f⟩ := formL_at hw
  obtain ⟨i, hi, e⟩ := List.getElem_of_mem hs
  have hl : (formL n rows).length = (redL (rows.map lineL) n).1.length := List.length_map _
  have er := List.getElem?_eq_getElem (l := (redL (rows.map lineL) n).1) (i := i) (by omega)
  obtain ⟨s', e', _, q, q0, q1, _⟩ := f i _ er
  rw [List.getElem?_eq_getElem hi, e] at e'
  cases e'
  exact ((h.sub _ (List.mem_append_left _ (List.mem_of_getElem? er))).smul q).cast fun x => (q1 x).symm
theorem formL_sup (hw : ∀ s ∈ rows, s.1.length = n) (sd : Snd n rows) : ∀ s ∈ rows, SpS (formL n rows) (vecS s) := fun s hs' => by
  obtain ⟨L, h, f⟩ := formL_at hw
  refine (h.sup _ ⟨s, hs', rfl⟩).trans fun w ⟨r, hr, e⟩ => ?_
  subst e
  rcases List.mem_append.mp hr with hr | hr
  · obtain ⟨i, hi, e⟩ := List.getElem_of_mem hr
    obtain ⟨s', e', _, q, q0, q1, _⟩ := f i r (by rw [List.getElem?_eq_getElem hi, e])
    exact ((SpS.of (List.mem_of_getElem? e')).smul (1 / q)).cast fun x => by rw [q1]; grind
  · exact Spn.zero.cast fun x => (sd _ (h.sub r (List.mem_append_right _ hr)) (h.nil r hr) x).symm
/-- both eliminations make one form -/
theorem formL_eq (hw : ∀ s ∈ rows, s.1.length = n) (sd : Snd n rows) : formP n rows = formL n rows :=
  formP_eq hw (formL_rnf hw) (formL_sup hw sd) (formL_sub hw)
end
end La
set_option Elab.async false
set_option linter.all false
set_option maxRecDepth 100000
set_option maxHeartbeats 4000000
set_option exponentiation.threshold 10000
/-! La: books are alike as the program finds it if they span the same. -/
namespace La
open PySem PySem.Spec PyProof.Rows L2 Pf K82
theorem fold_take {α : Type} (f : α → Rat) (d : α) (l : List α) : ∀ k, k ≤ l.length → (l.take k).foldl (fun t p => t + f p) 0 = sm k fun i => f (l.getD i d)
  | 0, _ => by rw [List.take_zero]; rfl
  | k + 1, h => by
    have e : l[k]? = some l[k] := List.getElem?_eq_getElem (by omega)
    rw [foldl_take (fun t p => t + f p) 0 l k _ e, fold_take f d l k (by omega)]
    show _ = sm k (fun i => f (l.getD i d)) + f (l.getD k d)
    rw [getD_at e]
theorem zip_at {parts : List Int} {w : List Rat} (h : parts.length = w.length) (i : Nat) : (List.zip parts w).getD i (0, 0) = (parts.getD i 0, w.getD i 0) := by
  by_cases hi : i < parts.length
  · rw [getD_at (x := (parts[i], w[i])) (by rw [List.getElem?_zip_eq_some]; exact ⟨List.getElem?_eq_getElem hi, List.getElem?_eq_getElem (by omega)⟩), getD_at (List.getElem?_eq_getElem hi), getD_at (List.getElem?_eq_getElem (show i < w.length by omega))]
  · rw [getD_far (by rw [List.length_zip]; omega), getD_far (by omega), getD_far (by omega)]
theorem added_take {parts : List Int} {w : List Rat} (h : parts.length = w.length) {k : Nat} (hk : k ≤ parts.length) : ((List.zip parts w).take k).foldl (fun t p => t + (p.1 : Rat) * p.2) 0 = sm k fun i => ((parts.getD i 0 : Int) : Rat) * w.getD i 0 := by
  rw [fold_take (fun p : Int × Rat => (p.1 : Rat) * p.2) (0, 0) _ k (by rw [List.length_zip]; omega)]
  exact sm_congr fun i _ => by rw [zip_at h]
theorem added_sm {s : Sm} {w : List Rat} {n : Nat} (hs : s.1.length = n) (hw : w.length = n) : addedP s.1 w = sm n fun i => vecS s i * w.getD i 0 := by
  have e := added_take (parts := s.1) (w := w) (by omega) (Nat.le_refl _)
  rw [List.take_of_length_le (by rw [List.length_zip]; omega)] at e
  unfold addedP
  rw [e, hs]
  exact sm_congr fun i hi => by rw [vecS_part (by omega)]
theorem set_fold_no {α : Type} (g : α → Nat) (w : α → Rat) (x : Nat) : ∀ (l : List α) (v : List Rat), (∀ p ∈ l, g p ≠ x) → (l.foldl (fun v p => v.set (g p) (w p)) v).getD x 0 = v.getD x 0
  | [], _, _ => rfl
  | p :: l, v, h => by
    rw [List.foldl_cons, set_fold_no g w x l _ fun q hq => h q (List.mem_cons_of_mem _ hq), List.getD_eq_getElem?_getD, List.getElem?_set_ne (h p List.mem_cons_self), List.getD_eq_getElem?_getD]
theorem set_fold_at {α : Type} (g : α → Nat) (w : α → Rat) (x : Nat) : ∀ (l : List α) (v : List Rat) (i : Nat) (p : α), l[i]? = some p → g p = x → (∀ j q, l[j]? = some q → g q = x → j = i) → x < v.length → (l.foldl (fun v p => v.set (g p) (w p)) v).getD x 0 = w p
  | [], _, _, _, h, _, _, _ => by simp at h
  | q :: l, v, 0, p, h, hg, hu, hx => by
    have e : q = p := by simpa using h
    subst e
    rw [List.foldl_cons, set_fold_no g w x l _ fun r hr z => by
      obtain ⟨j, hj, e⟩ := List.getElem_of_mem hr
      have := hu (j + 1) r (by rw [List.getElem?_cons_succ, List.getElem?_eq_getElem hj, e]) z
      omega]
    rw [List.getD_eq_getElem?_getD, ← hg, List.getElem?_set_self (by rw [hg]; exact hx)]
    rfl
  | q :: l, v, i + 1, p, h, hg, hu, hx => by
    rw [List.foldl_cons]
    exact set_fold_at g w x l _ i p (by simpa using h) hg (fun j r hr z => by
      have := hu (j + 1) r (by simpa using hr) z
      omega) (by rw [List.length_set]; exact hx)
/-- a straight form -/
def phi (n : Nat) (w : Nat → Rat) (e : Rat) (v : Vec) : Rat := sm n (fun x => v x * w x) - e * v n
theorem phi0 (n : Nat) (w : Nat → Rat) (e : Rat) : phi n w e (fun _ => 0) = 0 := by
  unfold phi
  rw [sm_zero fun i _ => by grind]
  grind
theorem phi_lin (n : Nat) (w : Nat → Rat) (e : Rat) (u v : Vec) (c : Rat) : phi n w e (fun i => u i + c * v i) = phi n w e u + c * phi n w e v := by
  unfold phi
  have h : sm n (fun x => (u x + c * v x) * w x) = sm n (fun x => u x * w x + c * (v x * w x)) := sm_congr fun i _ => by grind
  rw [h, sm_add, sm_mul]
  grind
theorem Spn.sum {S : Vec → Prop} {R : Nat → Vec} (a : Nat → Rat) : ∀ {d : Nat}, (∀ i, i < d → Spn S (R i)) → Spn S fun x => sm d fun i => a i * R i x
  | 0, _ => Spn.zero.cast fun _ => rfl
  | d + 1, h => (Spn.comb (a d) (Spn.sum a fun i hi => h i (by omega)) (h d (by omega))).cast fun _ => rfl
section
variable {n : Nat} {rows E : List Sm}
/-- what the reduced rows look like, by places -/
structure Shp (n d : Nat) (M : Nat → Vec) (L : Nat → Nat) : Prop where
  lt : ∀ i, i < d → L i < n
  inj : ∀ i j, i < d → j < d → L i = L j → i = j
  one : ∀ i, i < d → M i (L i) = 1
  off : ∀ i j, i < d → j ≠ i → M j (L i) = 0
theorem Shp.of (hw : ∀ s ∈ rows, s.1.length = n) : Shp n (red n rows).2.length (at2 (red n rows).1) fun i => (red n rows).2.getD i 0 := by
  have h := red_all hw
  have gl : ∀ {i}, i < (red n rows).2.length → (red n rows).2[i]? = some ((red n rows).2.getD i 0) := fun {i} hi => by
    rw [List.getD_eq_getElem?_getD, List.getElem?_eq_getElem hi]
    rfl
  refine ⟨fun i hi => h.lt i _ (gl hi), fun i j hi hj e => ?_, fun i hi => h.one i _ (gl hi), fun i j hi ne => h.off i j _ (gl hi) ne⟩
  refine Classical.byContradiction fun z => ?_
  by_cases lt : i < j
  · have := h.inc i j _ _ lt (gl hi) (gl hj); omega
  · have := h.inc j i _ _ (by omega) (gl hj) (gl hi); omega
theorem zip_get (hw : ∀ s ∈ rows, s.1.length = n) {i : Nat} {p : List Rat × Nat} : (List.zip (red n rows).1 (red n rows).2)[i]? = some p ↔ i < (red n rows).2.length ∧ p.2 = (red n rows).2.getD i 0 ∧ ∀ x, p.1.getD x 0 = at2 (red n rows).1 i x ∧ (red n rows).1[i]? = some p.1 := by
  have h := red_all hw
  rw [List.getElem?_zip_eq_some]
  constructor
  · rintro ⟨h1, h2⟩
    refine ⟨(List.getElem?_eq_some_iff.mp h2).1, (getD_at h2).symm, fun x => ⟨?_, h1⟩⟩
    unfold at2
    rw [getD_at h1]
  · rintro ⟨h1, h2, h3⟩
    refine ⟨(h3 0).2, ?_⟩
    rw [h2, List.getD_eq_getElem?_getD, List.getElem?_eq_getElem h1]
    rfl
theorem zip_ok (hw : ∀ s ∈ rows, s.1.length = n) {i : Nat} (hi : i < (red n rows).2.length) : ∃ p, (List.zip (red n rows).1 (red n rows).2)[i]? = some p ∧ p.2 = (red n rows).2.getD i 0 ∧ ∀ x, p.1.getD x 0 = at2 (red n rows).1 i x := by
  have h := red_all hw
  have hm : i < (red n rows).1.length := by have := h.few; omega
  refine ⟨((red n rows).1[i], (red n rows).2[i]), by rw [List.getElem?_zip_eq_some]; exact ⟨List.getElem?_eq_getElem hm, List.getElem?_eq_getElem hi⟩, ?_, fun x => ?_⟩
  · rw [getD_at (List.getElem?_eq_getElem hi)]
  · unfold at2
    rw [getD_at (List.getElem?_eq_getElem hm)]
theorem world_lead (hw : ∀ s ∈ rows, s.1.length = n) {i : Nat} (hi : i < (red n rows).2.length) : (worldP (red n rows).1 (red n rows).2 n).getD ((red n rows).2.getD i 0) 0 = at2 (red n rows).1 i n := by
  have sh := Shp.of hw
  obtain ⟨p, e, e2, e3⟩ := zip_ok hw hi
  unfold worldP
  rw [set_fold_at (fun p : List Rat × Nat => p.2) (fun p => p.1.getD n 0) _ _ _ i p e e2 (fun j q hq z => ?_) (by rw [List.length_replicate]; exact sh.lt i hi), e3]
  obtain ⟨h1, h2, _⟩ := (zip_get hw).mp hq
  exact sh.inj j i h1 hi (by rw [← h2]; exact z)
theorem world_free (hw : ∀ s ∈ rows, s.1.length = n) {c : Nat} (hc : c ∉ (red n rows).2) : (worldP (red n rows).1 (red n rows).2 n).getD c 0 = 0 := by
  unfold worldP
  rw [set_fold_no (fun p : List Rat × Nat => p.2) (fun p => p.1.getD n 0) c _ _ fun p hp z => hc (z ▸ (List.of_mem_zip hp).2)]
  rw [List.getD_eq_getElem?_getD, List.getElem?_replicate]
  split <;> rfl
theorem move_lead (hw : ∀ s ∈ rows, s.1.length = n) {i c : Nat} (hi : i < (red n rows).2.length) : (moveP (red n rows).1 (red n rows).2 n c).getD ((red n rows).2.getD i 0) 0 = 0 - at2 (red n rows).1 i c := by
  have sh := Shp.of hw
  obtain ⟨p, e, e2, e3⟩ := zip_ok hw hi
  unfold moveP
  rw [set_fold_at (fun p : List Rat × Nat => p.2) (fun p => 0 - p.1.getD c 0) _ _ _ i p e e2 (fun j q hq z => ?_) (by rw [List.length_set, List.length_replicate]; exact sh.lt i hi), e3]
  obtain ⟨h1, h2, _⟩ := (zip_get hw).mp hq
  exact sh.inj j i h1 hi (by rw [← h2]; exact z)
theorem move_free (hw : ∀ s ∈ rows, s.1.length = n) {x c : Nat} (hx : x ∉ (red n rows).2) (hn : x < n) : (moveP (red n rows).1 (red n rows).2 n c).getD x 0 = if x = c then 1 else 0 := by
  unfold moveP
  rw [set_fold_no (fun p : List Rat × Nat => p.2) (fun p => 0 - p.1.getD c 0) x _ _ fun p hp z => hx (z ▸ (List.of_mem_zip hp).2)]
  rw [List.getD_eq_getElem?_getD]
  by_cases e : x = c
  · subst e
    rw [if_pos rfl, List.getElem?_set_self (by rw [List.length_replicate]; exact hn)]
    rfl
  · rw [if_neg e, List.getElem?_set_ne (fun z => e z.symm), List.getElem?_replicate]
    split <;> rfl
theorem lead_or (x : Nat) (ls : List Nat) : (∃ i, i < ls.length ∧ ls.getD i 0 = x) ∨ x ∉ ls := by
  by_cases h : x ∈ ls
  · obtain ⟨i, hi, e⟩ := List.getElem_of_mem h
    exact .inl ⟨i, hi, by rw [getD_at (List.getElem?_eq_getElem hi), e]⟩
  · exact .inr h
/-- the world keeps what the reduced rows say; the moves change none of it -/
theorem phi_world (hw : ∀ s ∈ rows, s.1.length = n) {i : Nat} (hi : i < (red n rows).2.length) : phi n (fun x => (worldP (red n rows).1 (red n rows).2 n).getD x 0) 1 (at2 (red n rows).1 i) = 0 := by
  have sh := Shp.of hw
  unfold phi
  rw [sm_one (j := (red n rows).2.getD i 0) (sh.lt i hi) fun x hx ne => ?_, sh.one i hi]
  · have := world_lead hw hi
    dsimp only
    rw [this]
    grind
  · rcases lead_or x (red n rows).2 with ⟨j, hj, e⟩ | h
    · rw [← e, sh.off j i hj (fun z => ne (by rw [← e, z]))]
      grind
    · have := world_free hw h
      dsimp only
      rw [this]
      grind
theorem phi_move (hw : ∀ s ∈ rows, s.1.length = n) {i c : Nat} (hi : i < (red n rows).2.length) (hc : c ∉ (red n rows).2) (hn : c < n) : phi n (fun x => (moveP (red n rows).1 (red n rows).2 n c).getD x 0) 0 (at2 (red n rows).1 i) = 0 := by
  have sh := Shp.of hw
  have hne : (red n rows).2.getD i 0 ≠ c := fun z => hc (z ▸ by rw [getD_at (List.getElem?_eq_getElem hi)]; exact List.getElem_mem hi)
  have e : sm n (fun x => at2 (red n rows).1 i x * (moveP (red n rows).1 (red n rows).2 n c).getD x 0) = sm n (fun x => (if x = (red n rows).2.getD i 0 then (0 - at2 (red n rows).1 i c) else 0) + (if x = c then at2 (red n rows).1 i c else 0)) := by
    refine sm_congr fun x hx => ?_
    rcases lead_or x (red n rows).2 with ⟨j, hj, e⟩ | h
    · have hxc : x ≠ c := fun z => hc (by rw [← z, ← e, getD_at (List.getElem?_eq_getElem hj)]; exact List.getElem_mem hj)
      rw [if_neg hxc]
      by_cases ij : j = i
      · subst ij
        rw [if_pos e.symm, ← e, sh.one j hj, move_lead hw hj]
        grind
      · rw [← e, sh.off j i hj (fun z => ij z.symm), if_neg (fun z => ij (sh.inj j i hj hi z))]
        grind
    · have h1 : x ≠ (red n rows).2.getD i 0 := fun z => h (by rw [z, getD_at (List.getElem?_eq_getElem hi)]; exact List.getElem_mem hi)
      rw [if_neg h1, move_free hw h hx]
      split
      · rename_i ec
        rw [ec]
        grind
      · grind
  unfold phi
  rw [e, sm_add, sm_one (f := fun x => if x = (red n rows).2.getD i 0 then (0 - at2 (red n rows).1 i c) else 0) (sh.lt i hi) fun x _ ne => if_neg ne, sm_one (f := fun x => if x = c then at2 (red n rows).1 i c else 0) hn fun x _ ne => if_neg ne, if_pos rfl, if_pos rfl]
  grind
theorem span_red (hw : ∀ s ∈ rows, s.1.length = n) (sd : Snd n rows) {v : Vec} (hv : SpS rows v) : Spn (Rows (red n rows).2.length (at2 (red n rows).1)) v := by
  refine Spn.trans (fun w hw' => ?_) hv
  refine ((red_all hw).sup w hw').trans fun u ⟨j, e⟩ => ?_
  subst e
  by_cases hj : j < (red n rows).2.length
  · exact .of ⟨j, hj, rfl⟩
  · exact Spn.zero.cast fun x => (red_rest hw sd (by omega) x).symm
theorem mem_free {ls : List Nat} {n c : Nat} : c ∈ freeP ls n ↔ c < n ∧ c ∉ ls := by
  unfold freeP
  rw [List.mem_filter, List.mem_range]
  simp
/-- a sum follows just if no world breaks it -/
theorem break_iff (hw : ∀ s ∈ rows, s.1.length = n) (sd : Snd n rows) {s : Sm} (h1 : s.1.length = n) : breakB n rows s = false ↔ SpS rows (vecS s) := by
  have sh := Shp.of hw
  have ew : addedP s.1 (worldP (red n rows).1 (red n rows).2 n) - s.2 = phi n (fun x => (worldP (red n rows).1 (red n rows).2 n).getD x 0) 1 (vecS s) := by
    rw [added_sm h1 (worldP_len _ _ _)]
    have := vecS_due (s := s)
    rw [h1] at this
    unfold phi
    rw [this]
    grind
  have em : ∀ c, addedP s.1 (moveP (red n rows).1 (red n rows).2 n c) = phi n (fun x => (moveP (red n rows).1 (red n rows).2 n c).getD x 0) 0 (vecS s) := fun c => by
    rw [added_sm h1 (moveP_len _ _ _ _)]
    unfold phi
    grind
  have iff : breakB n rows s = false ↔ phi n (fun x => (worldP (red n rows).1 (red n rows).2 n).getD x 0) 1 (vecS s) = 0 ∧ ∀ c, c < n → c ∉ (red n rows).2 → phi n (fun x => (moveP (red n rows).1 (red n rows).2 n c).getD x 0) 0 (vecS s) = 0 := by
    unfold breakB
    rw [Bool.or_eq_false_iff, List.any_eq_false, ← ew]
    constructor
    · rintro ⟨a, b⟩
      refine ⟨?_, fun c hc hl => ?_⟩
      · have a := of_decide_eq_false a
        have a : addedP s.1 (worldP (red n rows).1 (red n rows).2 n) = s.2 := Classical.not_not.mp a
        rw [a]
        grind
      · have b := b (moveP (red n rows).1 (red n rows).2 n c) (List.mem_map_of_mem (mem_free.mpr ⟨hc, hl⟩))
        rw [← em]
        simpa using b
    · rintro ⟨a, b⟩
      refine ⟨decide_eq_false (Classical.not_not.mpr (by grind)), fun v hv => ?_⟩
      obtain ⟨c, hc, rfl⟩ := List.mem_map.mp hv
      obtain ⟨c1, c2⟩ := mem_free.mp hc
      rw [em, b c c1 c2]
      decide
  rw [iff]
  constructor
  · rintro ⟨a, b⟩
    have ms : ∀ i, i < (red n rows).2.length → SpS rows (at2 (red n rows).1 i) := fun i _ => (red_all hw).sub i
    have hT : SpS rows fun x => sm (red n rows).2.length fun i => vecS s ((red n rows).2.getD i 0) * at2 (red n rows).1 i x := Spn.sum _ ms
    have hTr := Spn.sum (S := Rows (red n rows).2.length (at2 (red n rows).1)) (fun i => vecS s ((red n rows).2.getD i 0)) (d := (red n rows).2.length) (R := at2 (red n rows).1) fun i hi => .of ⟨i, hi, rfl⟩
    have tl : ∀ j, j < (red n rows).2.length → sm (red n rows).2.length (fun i => vecS s ((red n rows).2.getD i 0) * at2 (red n rows).1 i ((red n rows).2.getD j 0)) = vecS s ((red n rows).2.getD j 0) := fun j hj => by
      rw [sm_one (f := fun i => vecS s ((red n rows).2.getD i 0) * at2 (red n rows).1 i ((red n rows).2.getD j 0)) hj fun i hi ne => by rw [sh.off j i hj ne]; grind, sh.one j hj]
      grind
    have pT : ∀ (w : Nat → Rat) (e : Rat), (∀ i, i < (red n rows).2.length → phi n w e (at2 (red n rows).1 i) = 0) → phi n w e (fun x => sm (red n rows).2.length fun i => vecS s ((red n rows).2.getD i 0) * at2 (red n rows).1 i x) = 0 := fun w e h =>
      Spn.lin (phi0 n w e) (phi_lin n w e) (fun u ⟨i, hi, eu⟩ => eu ▸ h i hi) hTr
    generalize hTd : (fun x => sm (red n rows).2.length fun i => vecS s ((red n rows).2.getD i 0) * at2 (red n rows).1 i x) = T at *
    have tl : ∀ j, j < (red n rows).2.length → T ((red n rows).2.getD j 0) = vecS s ((red n rows).2.getD j 0) := fun j hj => by rw [← tl j hj, ← hTd]
    -- what is left
    have pv : ∀ (w : Nat → Rat) (e : Rat), phi n w e (vecS s) = 0 → phi n w e T = 0 → phi n w e (fun x => vecS s x + (-1) * T x) = 0 := fun w e p q => by
      rw [phi_lin, p, q]
      grind
    have v0 : ∀ x, x < n → vecS s x + (-1) * T x = 0 := fun x hx => by
      rcases lead_or x (red n rows).2 with ⟨j, hj, e⟩ | h
      · rw [← e, tl j hj]
        grind
      · have p := pv _ _ (b x hx h) (pT _ _ fun i hi => phi_move hw hi h hx)
        unfold phi at p
        rw [sm_one (f := fun y => (vecS s y + (-1) * T y) * (moveP (red n rows).1 (red n rows).2 n x).getD y 0) hx fun y hy ne => ?_, move_free hw h hx, if_pos rfl] at p
        · grind
        · rcases lead_or y (red n rows).2 with ⟨j, hj, e⟩ | h'
          · rw [← e, tl j hj]
            grind
          · rw [move_free hw h' hy, if_neg ne]
            grind
    have vn : vecS s n + (-1) * T n = 0 := by
      have p := pv _ _ a (pT _ _ fun i hi => phi_world hw hi)
      unfold phi at p
      rw [sm_zero (f := fun y => (vecS s y + (-1) * T y) * (worldP (red n rows).1 (red n rows).2 n).getD y 0) fun y hy => by rw [v0 y hy]; grind] at p
      grind
    refine hT.cast fun x => ?_
    by_cases hx : x < n
    · have := v0 x hx; grind
    · by_cases e : x = n
      · subst e; grind
      · rw [vecS_far (by omega), ← hTd]
        refine sm_zero fun i hi => ?_
        have : at2 (red n rows).1 i x = 0 := by
          unfold at2
          refine getD_far ?_
          have hm : i < (red n rows).1.length := by have := (red_all hw).few; omega
          have := (red_all hw).wide.getD hm
          omega
        rw [this]
        grind
  · intro h
    have hr := span_red hw sd h
    exact ⟨Spn.lin (phi0 _ _ _) (phi_lin _ _ _) (fun u ⟨i, hi, e⟩ => e ▸ phi_world hw hi) hr, fun c hc hl => Spn.lin (phi0 _ _ _) (phi_lin _ _ _) (fun u ⟨i, hi, e⟩ => e ▸ phi_move hw hi hl hc) hr⟩
theorem alike_iff {one other : List Sm} (hw : ∀ s ∈ one, s.1.length = n) (hw' : ∀ s ∈ other, s.1.length = n) (sd : Snd n one) (sd' : Snd n other) :
    alikeB n one other = true ↔ (∀ s ∈ other, SpS one (vecS s)) ∧ ∀ s ∈ one, SpS other (vecS s) := by
  unfold alikeB partB
  rw [Bool.not_eq_true', Bool.or_eq_false_iff, List.any_eq_false, List.any_eq_false]
  refine and_congr ⟨fun h s m => ?_, fun h s m => ?_⟩ ⟨fun h s m => ?_, fun h s m => ?_⟩
  · exact (break_iff hw sd (hw' s m)).mp (by simpa using h s m)
  · rw [(break_iff hw sd (hw' s m)).mpr (h s m)]; decide
  · exact (break_iff hw' sd' (hw s m)).mp (by simpa using h s m)
  · rw [(break_iff hw' sd' (hw s m)).mpr (h s m)]; decide
/-- with a sum less the books are alike just if the form is as long -/
theorem alike_less {less other : List Sm} (hw : ∀ s ∈ less, s.1.length = n) (hw' : ∀ s ∈ other, s.1.length = n) (hE : Rnf n E) (hs : ∀ s ∈ less, SpS E (vecS s)) (hs' : ∀ s ∈ other, SpS E (vecS s)) (hE' : ∀ s ∈ E, SpS other (vecS s)) :
    alikeB n less other = decide ((formL n less).length = E.length) := by
  have fr := formL_rnf hw
  have fs : ∀ s ∈ formL n less, SpS E (vecS s) := fun s m => (formL_sub hw s m).trans hs
  rw [Bool.eq_iff_iff, alike_iff hw hw' (.of hE hs) (.of hE hs'), decide_eq_true_iff]
  constructor
  · rintro ⟨a, b⟩
    have : formL n less = E := hE.uniq fr fs fun s m => ((hE' s m).trans a).trans (formL_sup hw (.of hE hs))
    rw [this]
  · intro e
    have : formL n less = E := hE.eq fr fs (by omega)
    have le : ∀ s ∈ E, SpS less (vecS s) := fun s m => by rw [← this] at m; exact formL_sub hw s m
    exact ⟨fun s m => (hs' s m).trans le, fun s m => (hs s m).trans hE'⟩
end
end La
set_option Elab.async false
set_option linter.all false
set_option maxRecDepth 100000
set_option maxHeartbeats 4000000
set_option exponentiation.threshold 20000
/-! La: how great the numbers become. -/
namespace La
open PySem PySem.Spec PyProof.Rows L2 Pf K82
/-- a table over one denominator; its dues over six times that -/
def Tab (n b c : Nat) (m : List (List Rat)) : Prop := ∃ D : Nat, 0 < D ∧ D ≤ 2 ^ b ∧ (∀ j x, x < n → ∃ N : Int, at2 m j x = (N : Rat) / (D : Rat) ∧ N.natAbs ≤ 2 ^ b) ∧ ∀ j, ∃ U : Int, at2 m j n = (U : Rat) / (6 * (D : Rat)) ∧ U.natAbs ≤ 2 ^ c
theorem pow_mono {a b : Nat} (h : a ≤ b) : 2 ^ a ≤ 2 ^ b := Nat.pow_le_pow_right (by decide) h
theorem Tab.mono {n b c b' c' : Nat} {m : List (List Rat)} (h : Tab n b c m) (hb : b ≤ b') (hc : c ≤ c') : Tab n b' c' m := by
  obtain ⟨D, d0, d1, d2, d3⟩ := h
  exact ⟨D, d0, Nat.le_trans d1 (pow_mono hb), fun j x hx => let ⟨N, e, l⟩ := d2 j x hx; ⟨N, e, Nat.le_trans l (pow_mono hb)⟩, fun j => let ⟨U, e, l⟩ := d3 j; ⟨U, e, Nat.le_trans l (pow_mono hc)⟩⟩
theorem n_ne {a : Nat} (h : a ≠ 0) : (a : Rat) ≠ 0 := fun z => h (Rat.natCast_inj.mp (show (a : Rat) = ((0 : Nat) : Rat) from z))
theorem sgn_of {P : Int} (h : P ≠ 0) : ∃ s : Int, (s = 1 ∨ s = -1) ∧ P = s * (P.natAbs : Int) := by
  by_cases q : 0 < P
  · exact ⟨1, .inl rfl, by omega⟩
  · exact ⟨-1, .inr rfl, by omega⟩
theorem sgn_abs' {s : Int} (h : s = 1 ∨ s = -1) (z : Int) : (s * z).natAbs = z.natAbs := by
  rcases h with h | h <;> subst h <;> omega
theorem mul2 {x y a b : Nat} (h1 : x ≤ 2 ^ a) (h2 : y ≤ 2 ^ b) : x * y ≤ 2 ^ (a + b) := by
  rw [Nat.pow_add]
  exact Nat.mul_le_mul h1 h2
theorem diff2 {x y z w : Int} {a b c : Nat} (h1 : x.natAbs ≤ 2 ^ a) (h2 : y.natAbs ≤ 2 ^ b) (h3 : z.natAbs ≤ 2 ^ b) (h4 : w.natAbs ≤ 2 ^ a) (hc : a + b + 1 ≤ c) : (x * y - z * w).natAbs ≤ 2 ^ c := by
  have p1 := mul2 h1 h2
  have p2 := mul2 h3 h4
  rw [Nat.add_comm b a] at p2
  have e1 : (x * y).natAbs = x.natAbs * y.natAbs := Int.natAbs_mul ..
  have e2 : (z * w).natAbs = z.natAbs * w.natAbs := Int.natAbs_mul ..
  have p3 : 2 ^ (a + b + 1) ≤ 2 ^ c := pow_mono hc
  rw [Nat.pow_succ] at p3
  have : (x * y - z * w).natAbs ≤ (x * y).natAbs + (z * w).natAbs := by omega
  omega
theorem Tab.elim {n b c : Nat} {m : List (List Rat)} (h : Tab n b c m) (hw : Wide (n + 1) m) {d i k : Nat} (hd : d < m.length) (hi : i < m.length) (hk : k < n) (hp : at2 m i k ≠ 0) : Tab n (2 * b + 1) (c + b + 1) (elim m d i k) := by
  obtain ⟨D, d0, d1, d2, d3⟩ := h
  have hD : (D : Rat) ≠ 0 := n_ne (by omega)
  obtain ⟨P, eP, lP⟩ := d2 i k hk
  have hP : P ≠ 0 := fun z => hp (by rw [eP, z, i0]; grind)
  obtain ⟨s, hs, eA⟩ := sgn_of hP
  have hA : P.natAbs ≠ 0 := by omega
  have hAr : (P.natAbs : Rat) ≠ 0 := n_ne hA
  have ePr : (P : Rat) = (s : Rat) * (P.natAbs : Rat) := by
    have : ((P : Int) : Rat) = ((s * (P.natAbs : Int) : Int) : Rat) := by rw [← eA]
    rw [this, Rat.intCast_mul, Rat.intCast_natCast]
  have hsr : (s : Rat) = 1 ∨ (s : Rat) = -1 := by
    rcases hs with h | h <;> subst h
    · exact .inl rfl
    · exact .inr rfl
  have lA : P.natAbs ≤ 2 ^ b := lP
  refine ⟨D * P.natAbs, Nat.mul_pos d0 (by omega), ?_, fun j x hx => ?_, fun j => ?_⟩
  · exact Nat.le_trans (mul2 d1 lA) (pow_mono (by omega))
  · rw [elim_at hw hd hi]
    obtain ⟨N, eN, lN⟩ := d2 i x hx
    split
    · refine ⟨s * (N * (D : Int)), ?_, ?_⟩
      · rw [eN, eP, ePr, Rat.natCast_mul, Rat.intCast_mul, Rat.intCast_mul, Rat.intCast_natCast]
        generalize (P.natAbs : Rat) = A at *
        generalize (N : Rat) = N at *
        generalize (D : Rat) = D at *
        rcases hsr with e | e <;> rw [e] <;> grind
      · rw [sgn_abs' hs, Int.natAbs_mul, Int.natAbs_natCast]
        exact Nat.le_trans (mul2 lN d1) (pow_mono (by omega))
    · obtain ⟨Nr, eNr, lNr⟩ := d2 (if j = i then d else j) x hx
      obtain ⟨Nc, eNc, lNc⟩ := d2 (if j = i then d else j) k hk
      refine ⟨s * (Nr * P - Nc * N), ?_, ?_⟩
      · rw [eN, eP, eNr, eNc, Rat.intCast_mul, Rat.intCast_sub, Rat.intCast_mul, Rat.intCast_mul, ePr, Rat.natCast_mul]
        generalize (P.natAbs : Rat) = A at *
        generalize (N : Rat) = N at *
        generalize (Nr : Rat) = Nr at *
        generalize (Nc : Rat) = Nc at *
        generalize (D : Rat) = D at *
        rcases hsr with e | e <;> rw [e] <;> grind
      · rw [sgn_abs' hs]
        exact diff2 lNr lP lNc lN (by omega)
  · rw [elim_at hw hd hi]
    obtain ⟨U, eU, lU⟩ := d3 i
    split
    · refine ⟨s * (U * (D : Int)), ?_, ?_⟩
      · rw [eU, eP, ePr, Rat.natCast_mul, Rat.intCast_mul, Rat.intCast_mul, Rat.intCast_natCast]
        generalize (P.natAbs : Rat) = A at *
        generalize (U : Rat) = N at *
        generalize (D : Rat) = D at *
        rcases hsr with e | e <;> rw [e] <;> grind
      · rw [sgn_abs' hs, Int.natAbs_mul, Int.natAbs_natCast]
        exact Nat.le_trans (mul2 lU d1) (pow_mono (by omega))
    · obtain ⟨Ur, eUr, lUr⟩ := d3 (if j = i then d else j)
      obtain ⟨Nc, eNc, lNc⟩ := d2 (if j = i then d else j) k hk
      refine ⟨s * (Ur * P - Nc * U), ?_, ?_⟩
      · rw [eU, eP, eUr, eNc, Rat.intCast_mul, Rat.intCast_sub, Rat.intCast_mul, Rat.intCast_mul, ePr, Rat.natCast_mul]
        generalize (P.natAbs : Rat) = A at *
        generalize (U : Rat) = N at *
        generalize (Ur : Rat) = Nr at *
        generalize (Nc : Rat) = Nc at *
        generalize (D : Rat) = D at *
        rcases hsr with e | e <;> rw [e] <;> grind
      · rw [sgn_abs' hs]
        exact diff2 lUr lP lNc lU (by omega)
/-- a book whose numbers are small enough -/
structure Bk (n : Nat) (rows : List Sm) : Prop where
  few : rows.length ≤ 8
  wide : ∀ s ∈ rows, s.1.length = n
  part : ∀ s ∈ rows, ∀ x ∈ s.1, x.natAbs ≤ 1000
  due : ∀ s ∈ rows, ∃ U : Int, s.2 = (U : Rat) / 6 ∧ U.natAbs ≤ 2 ^ 60
theorem Tab.start {n : Nat} {rows : List Sm} (h : Bk n rows) : Tab n 10 60 (augM rows) := by
  have hat : ∀ j, (∃ s, s ∈ rows ∧ at2 (augM rows) j = vecS s) ∨ at2 (augM rows) j = fun _ => 0 := fun j => by
    by_cases hj : j < rows.length
    · refine .inl ⟨rows[j], List.getElem_mem hj, ?_⟩
      funext x
      unfold at2 augM vecS
      rw [getD_at (l := rows.map augRow) (x := augRow rows[j]) (by rw [List.getElem?_map, List.getElem?_eq_getElem hj]; rfl)]
    · refine .inr (funext fun x => at2_far ?_)
      unfold augM
      rw [List.length_map]
      omega
  refine ⟨1, by decide, by decide, fun j x hx => ?_, fun j => ?_⟩
  · rcases hat j with ⟨s, hs, e⟩ | e
    · rw [e, vecS_part (by rw [h.wide s hs]; exact hx)]
      exact ⟨s.1.getD x 0, by grind, Nat.le_trans (h.part s hs _ (getD_mem (by rw [h.wide s hs]; exact hx))) (by decide)⟩
    · rw [e]
      exact ⟨0, by rw [i0]; grind, by decide⟩
  · rcases hat j with ⟨s, hs, e⟩ | e
    · obtain ⟨U, eU, lU⟩ := h.due s hs
      have := vecS_due (s := s)
      rw [h.wide s hs] at this
      rw [e, this, eU]
      exact ⟨U, by grind, lU⟩
    · rw [e]
      exact ⟨0, by rw [i0]; grind, by decide⟩
theorem tab_step {n c : Nat} {st : List (List Rat) × List Nat} (hw : Wide (n + 1) st.1) (hf : st.2.length ≤ st.1.length) (hc : c < n) (h : Tab n (11 * 2 ^ st.2.length - 1) (60 + 11 * 2 ^ st.2.length + st.2.length) st.1) :
    Tab n (11 * 2 ^ (redStep st c).2.length - 1) (60 + 11 * 2 ^ (redStep st c).2.length + (redStep st c).2.length) (redStep st c).1 := by
  unfold redStep
  split
  · exact h
  · rename_i i e
    obtain ⟨h1, h2, h3, _⟩ := findLead_spec e
    have := h.elim hw (d := st.2.length) (by omega) h2 hc h3
    dsimp only
    rw [List.length_append, List.length_singleton, Nat.pow_succ]
    have hp : 0 < 2 ^ st.2.length := Nat.pow_pos (by decide)
    exact this.mono (by omega) (by omega)
theorem tab_red {n : Nat} {rows : List Sm} (h : Bk n rows) : ∀ k, k ≤ n → Tab n (11 * 2 ^ (redAll (augM rows) (List.range k)).2.length - 1) (60 + 11 * 2 ^ (redAll (augM rows) (List.range k)).2.length + (redAll (augM rows) (List.range k)).2.length) (redAll (augM rows) (List.range k)).1
  | 0, _ => (Tab.start h).mono (by rw [show (redAll (augM rows) (List.range 0)).2.length = 0 from rfl]; decide) (by rw [show (redAll (augM rows) (List.range 0)).2.length = 0 from rfl]; decide)
  | k + 1, hk => by
    have ih := tab_red h k (by omega)
    have iv := red_inv h.wide k
    have e : redAll (augM rows) (List.range (k + 1)) = redStep (redAll (augM rows) (List.range k)) k := by
      unfold redAll
      rw [List.range_succ, List.foldl_append]
      rfl
    rw [e]
    exact tab_step iv.wide iv.few (by omega) ih
theorem redAll_len {n : Nat} {rows : List Sm} (h : Bk n rows) (k : Nat) : (redAll (augM rows) (List.range k)).2.length ≤ 8 := by
  have := (redAll_ok (List.range k) (w := n + 1) (n := rows.length) (st := (augM rows, [])) ⟨aug_wide h.wide, List.length_map _, Nat.zero_le _⟩).few
  have e : (redAll (augM rows) (List.range k)) = (List.range k).foldl redStep (augM rows, []) := rfl
  rw [e]
  have := h.few
  omega
theorem tab_all {n : Nat} {rows : List Sm} (h : Bk n rows) {k : Nat} (hk : k ≤ n) : Tab n 2815 2884 (redAll (augM rows) (List.range k)).1 := by
  have l := redAll_len h k
  have p : 2 ^ (redAll (augM rows) (List.range k)).2.length ≤ 2 ^ 8 := pow_mono l
  have : (2 : Nat) ^ 8 = 256 := by decide
  exact (tab_red h k hk).mono (by omega) (by omega)
theorem fit_quot {N : Int} {D k : Nat} (hD : 0 < D) (h1 : N.natAbs < 2 ^ k) (h2 : D < 2 ^ k) : Fit k ((N : Rat) / (D : Rat)) := by
  have e : (N : Rat) / (D : Rat) = Rat.divInt N (D : Int) := by rw [divInt_as, Rat.intCast_natCast]
  rw [e]
  exact fit_divInt (by omega) h1 (by rw [Int.natAbs_natCast]; exact h2)
theorem lt_pow {x a b : Nat} (h : x ≤ 2 ^ a) (hb : a < b) : x < 2 ^ b := Nat.lt_of_le_of_lt h (Nat.pow_lt_pow_right (by decide) hb)
theorem six {x a : Nat} (h : x ≤ 2 ^ a) : 6 * x ≤ 2 ^ (3 + a) := mul2 (a := 3) (by decide) h
theorem six_cast (D : Nat) : 6 * (D : Rat) = ((6 * D : Nat) : Rat) := by rw [Rat.natCast_mul]; rfl
theorem Tab.fit {n : Nat} {m : List (List Rat)} (h : Tab n 2815 2884 m) (hw : Wide (n + 1) m) : ∀ r ∈ m, ∀ x ∈ r, Fit 3000 x := fun r hr x hx => by
  obtain ⟨D, d0, d1, d2, d3⟩ := h
  obtain ⟨j, hj, ej⟩ := List.getElem_of_mem hr
  obtain ⟨i, hi, ei⟩ := List.getElem_of_mem hx
  have ex : x = at2 m j i := by
    unfold at2
    rw [getD_at (List.getElem?_eq_getElem hj), ej, getD_at (List.getElem?_eq_getElem hi), ei]
  have hl := hw r hr
  by_cases hin : i < n
  · obtain ⟨N, e, l⟩ := d2 j i hin
    rw [ex, e]
    exact fit_quot d0 (lt_pow l (by decide)) (lt_pow d1 (by decide))
  · have : i = n := by omega
    subst this
    obtain ⟨U, e, l⟩ := d3 j
    rw [ex, e, six_cast]
    exact fit_quot (by omega) (lt_pow l (by decide)) (lt_pow (six d1) (by decide))
section
variable {n : Nat} {rows E : List Sm}
theorem book_ok (h : Bk n rows) (h2 : 2 ≤ n) (h4 : n ≤ 11) : BookOk n 3000 rows := by
  refine ⟨by have := h.few; omega, h2, by omega, h.wide, by decide, fun j => ?_⟩
  have e : (List.range n).take j = List.range (min j n) := List.take_range
  rw [e]
  exact (tab_all h (Nat.min_le_right ..)).fit (red_inv h.wide _).wide
theorem den_of {N : Int} {D : Nat} (hD : 0 < D) : ((N : Rat) / (D : Rat)).den ∣ D := by
  have e : (N : Rat) / (D : Rat) = Rat.divInt N (D : Int) := by rw [divInt_as, Rat.intCast_natCast]
  rw [e, Rat.den_divInt, if_neg (by omega)]
  have hg : (D : Int).gcd N ∣ D := by
    have := Int.gcd_dvd_left (D : Int) N
    exact Int.natCast_dvd_natCast.mp this
  exact Nat.div_dvd_of_dvd hg
theorem form_ok (h : Bk n rows) (h2 : 2 ≤ n) (h4 : n ≤ 11) (sd : Snd n rows) : FormOk n 3000 rows := by
  refine ⟨book_ok h h2 h4, void_no h.wide sd, fun r hr => ?_⟩
  have iv := red_all h.wide
  obtain ⟨D, d0, d1, d2, _⟩ := tab_all h (Nat.le_refl n)
  have d1' : D < 2 ^ 3000 := lt_pow d1 (by decide)
  obtain ⟨i, hi, e⟩ := List.getElem_of_mem hr
  rw [List.length_take] at hi
  rw [List.getElem_take] at e
  have hm : i < (red n rows).1.length := by omega
  have hl : i < (red n rows).2.length := by omega
  have er : (red n rows).1[i]? = some r := by rw [List.getElem?_eq_getElem hm, e]
  have ea : ∀ x, r.getD x 0 = at2 (red n rows).1 i x := fun x => by unfold at2; rw [getD_at er]
  have wr := iv.wide r (List.mem_of_getElem? er)
  have el := List.getElem?_eq_getElem hl
  have ln := iv.lt i _ el
  have l1 := iv.one i _ el
  generalize (red n rows).2[i] = l at *
  have dn : ∀ x ∈ r.take n, x.den ∣ D := fun x hx => by
    obtain ⟨j, hj, ej⟩ := List.getElem_of_mem hx
    rw [List.length_take] at hj
    rw [List.getElem_take] at ej
    obtain ⟨N, eN, _⟩ := d2 i j (by omega)
    have : x = (N : Rat) / (D : Rat) := by
      rw [← eN]
      show x = at2 (red n rows).1 i j
      rw [← ea, getD_at (List.getElem?_eq_getElem (show j < r.length by omega)), ej]
    rw [this]
    exact den_of d0
  have mem : (1 : Rat) ∈ r.take n := by
    have e1 : r.getD l 0 = 1 := by rw [ea, l1]
    rw [List.getD_eq_getElem?_getD, List.getElem?_eq_getElem (show l < r.length by omega)] at e1
    have e1 : r[l] = 1 := e1
    rw [← e1]
    refine List.mem_of_getElem? (i := l) ?_
    rw [List.getElem?_take_of_lt ln, List.getElem?_eq_getElem (show l < r.length by omega)]
  have le_of : ∀ {d : Nat}, d ∣ D → d < 2 ^ 3000 := fun {d} hd => Nat.lt_of_le_of_lt (Nat.le_of_dvd d0 hd) d1'
  refine ⟨by rw [List.length_take]; omega, ⟨1, mem, by decide⟩, fun j => le_of (lcm_dvd fun x hx => dn x (List.mem_of_mem_take hx)), fun x hx => ?_, ?_, by decide⟩
  · exact red_fit (book_ok h h2 h4) r (List.mem_of_getElem? er) x (List.mem_of_mem_take hx)
  · have hg : gcdAll (scaleRow (r.take n)) ∣ lcmDen (r.take n) := by
      have e1 := scale_at (r.take n) l
      have e2 : (r.take n).getD l 0 = 1 := by
        rw [List.getD_eq_getElem?_getD, List.getElem?_take_of_lt ln, ← List.getD_eq_getElem?_getD, ea, l1]
      rw [e2] at e1
      have e3 : (scaleRow (r.take n)).getD l 0 = (lcmDen (r.take n) : Int) := by
        refine Rat.intCast_inj.mp ?_
        rw [e1, Rat.intCast_natCast]
        grind
      have := gcdAll_dvd (getD_mem (l := scaleRow (r.take n)) (k := l) (by rw [scaleRow_len, List.length_take]; omega))
      rw [e3, Int.natAbs_natCast] at this
      exact this
    exact le_of (Nat.dvd_trans hg (lcm_dvd dn))
end
end La
set_option Elab.async false
set_option linter.all false
set_option maxRecDepth 100000
set_option maxHeartbeats 4000000
set_option exponentiation.threshold 20000
/-! La: how great the numbers become: worlds, moves; the law's own elimination. -/
namespace La
open PySem PySem.Spec PyProof.Rows L2 Pf K82
theorem sm_quot {p : List Int} {w : Nat → Rat} {D : Nat} (hD : 0 < D) (hp : ∀ i, (p.getD i 0).natAbs ≤ 2 ^ 10) (hw : ∀ i, ∃ U : Int, w i = (U : Rat) / (D : Rat) ∧ U.natAbs ≤ 2 ^ 2890) : ∀ j, ∃ S : Int, sm j (fun i => ((p.getD i 0 : Int) : Rat) * w i) = (S : Rat) / (D : Rat) ∧ S.natAbs ≤ j * 2 ^ 2900
  | 0 => ⟨0, by show (0 : Rat) = _; rw [i0]; grind, by decide⟩
  | j + 1 => by
    obtain ⟨S, e, l⟩ := sm_quot hD hp hw j
    obtain ⟨U, eU, lU⟩ := hw j
    refine ⟨S + p.getD j 0 * U, ?_, ?_⟩
    · show sm j (fun i => ((p.getD i 0 : Int) : Rat) * w i) + ((p.getD j 0 : Int) : Rat) * w j = _
      rw [e, eU, Rat.intCast_add, Rat.intCast_mul]
      grind
    · have h1 := mul2 (hp j) lU
      have e2 : (p.getD j 0 * U).natAbs = (p.getD j 0).natAbs * U.natAbs := Int.natAbs_mul ..
      rw [Nat.succ_mul]
      omega
theorem part_le {s : Sm} (h : ∀ x ∈ s.1, x.natAbs ≤ 1000) (i : Nat) : (s.1.getD i 0).natAbs ≤ 2 ^ 10 := by
  by_cases hi : i < s.1.length
  · exact Nat.le_trans (h _ (getD_mem hi)) (by decide)
  · rw [getD_far (by omega)]
    decide
theorem add_ok {s : Sm} {w : List Rat} {n D : Nat} (hs : ∀ x ∈ s.1, x.natAbs ≤ 1000) (h1 : s.1.length = n) (h2 : w.length = n) (h3 : n ≤ 11) (hD : 0 < D) (hD2 : D ≤ 2 ^ 2890) (hw : ∀ i, ∃ U : Int, w.getD i 0 = (U : Rat) / (D : Rat) ∧ U.natAbs ≤ 2 ^ 2890) : AddOk 3000 s.1 w := by
  have fit : ∀ {S : Int}, S.natAbs ≤ 2 ^ 2904 → Fit 3000 ((S : Rat) / (D : Rat)) := fun {S} h => fit_quot hD (lt_pow h (by decide)) (lt_pow hD2 (by decide))
  refine ⟨by omega, by decide, fun j => ?_, fun p hp => ?_, fun p hp => ?_, fun x hx => ?_⟩
  · have key : ∀ k, k ≤ s.1.length → Fit 3000 (((List.zip s.1 w).take k).foldl (fun t p => t + (p.1 : Rat) * p.2) 0) := fun k hk => by
      rw [added_take (by omega) hk]
      obtain ⟨S, e, l⟩ := sm_quot (p := s.1) (w := fun i => w.getD i 0) hD (part_le hs) hw k
      rw [e]
      refine fit (Nat.le_trans l ?_)
      have : k * 2 ^ 2900 ≤ 2 ^ 4 * 2 ^ 2900 := Nat.mul_le_mul_right _ (by omega)
      rw [← Nat.pow_add] at this
      exact this
    by_cases hj : j ≤ s.1.length
    · exact key j hj
    · have := key s.1.length (Nat.le_refl _)
      rw [List.take_of_length_le (by rw [List.length_zip]; omega)] at this
      rw [List.take_of_length_le (by rw [List.length_zip]; omega)]
      exact this
  · obtain ⟨i, hi, e⟩ := List.getElem_of_mem hp
    have hz := zip_at (parts := s.1) (w := w) (by omega) i
    rw [getD_at (List.getElem?_eq_getElem hi), e] at hz
    obtain ⟨U, eU, lU⟩ := hw i
    have e1 : p.1 = s.1.getD i 0 := by rw [hz]
    have e2 : p.2 = w.getD i 0 := by rw [hz]
    have e3 : (p.1 : Rat) * p.2 = ((s.1.getD i 0 * U : Int) : Rat) / (D : Rat) := by
      rw [e1, e2, eU, Rat.intCast_mul]
      grind
    rw [e3]
    refine fit ?_
    rw [Int.natAbs_mul]
    exact Nat.le_trans (mul2 (part_le hs i) lU) (pow_mono (by decide))
  · exact Nat.lt_of_le_of_lt (hs p hp) (Nat.lt_of_lt_of_le (by decide : 1000 < 2 ^ 10) (pow_mono (by decide)))
  · obtain ⟨i, hi, e⟩ := List.getElem_of_mem hx
    obtain ⟨U, eU, lU⟩ := hw i
    rw [getD_at (List.getElem?_eq_getElem hi), e] at eU
    rw [eU]
    exact fit (Nat.le_trans lU (pow_mono (by decide)))
section
variable {n : Nat} {rows E : List Sm}
theorem break_ok (h : Bk n rows) (h4 : n ≤ 11) {s : Sm} (hs : ∀ x ∈ s.1, x.natAbs ≤ 1000) (h1 : s.1.length = n) : BreakOk n 3000 rows s := by
  obtain ⟨D, d0, dD, d2, d3⟩ := tab_all h (Nat.le_refl n)
  have e0 : (0 : Rat) = ((0 : Int) : Rat) / ((6 * D : Nat) : Rat) := by rw [i0]; grind
  have hD : 0 < 6 * D := by omega
  have hD2 : 6 * D ≤ 2 ^ 2890 := Nat.le_trans (six dD) (pow_mono (by decide))
  have hDr : (D : Rat) ≠ 0 := n_ne (by omega)
  have hw := h.wide
  refine ⟨add_ok hs h1 (worldP_len _ _ _) h4 hD hD2 fun i => ?_, fun v hv => ?_⟩
  · rcases lead_or i (red n rows).2 with ⟨j, hj, e⟩ | hf
    · obtain ⟨U, eU, lU⟩ := d3 j
      rw [← e, world_lead hw hj]
      exact ⟨U, by rw [← six_cast]; exact eU, Nat.le_trans lU (pow_mono (by decide))⟩
    · rw [world_free hw hf]
      exact ⟨0, e0, by decide⟩
  · obtain ⟨c, hc, rfl⟩ := List.mem_map.mp hv
    obtain ⟨c1, c2⟩ := mem_free.mp hc
    refine add_ok hs h1 (moveP_len _ _ _ _) h4 hD hD2 fun i => ?_
    by_cases hin : i < n
    · rcases lead_or i (red n rows).2 with ⟨j, hj, e⟩ | hf
      · obtain ⟨N, eN, lN⟩ := d2 j c c1
        rw [← e, move_lead hw hj]
        refine ⟨-(6 * N), ?_, ?_⟩
        · show 0 - at2 (redAll (augM rows) (List.range n)).1 j c = _
          rw [eN, ← six_cast, Rat.intCast_neg, Rat.intCast_mul]
          have : ((6 : Int) : Rat) = 6 := rfl
          rw [this]
          generalize (D : Rat) = D at *
          grind
        · have := six (a := 2815) lN
          have e3 : (-(6 * N)).natAbs = 6 * N.natAbs := by omega
          rw [e3]
          exact Nat.le_trans this (pow_mono (by decide))
      · rw [move_free hw hf hin]
        split
        · refine ⟨((6 * D : Nat) : Int), ?_, by rw [Int.natAbs_natCast]; exact hD2⟩
          rw [Rat.intCast_natCast]
          have := n_ne (a := 6 * D) (by omega)
          grind
        · exact ⟨0, e0, by decide⟩
    · rw [getD_far (by rw [moveP_len]; omega)]
      exact ⟨0, e0, by decide⟩
theorem alike_ok {one other : List Sm} (h : Bk n one) (h' : Bk n other) (h2 : 2 ≤ n) (h4 : n ≤ 11) (sd : Snd n one) (sd' : Snd n other) : AlikeOk n 3000 one other :=
  ⟨book_ok h h2 h4, void_no h.wide sd, book_ok h' h2 h4, void_no h'.wide sd', fun s m => break_ok h h4 (h'.part s m) (h'.wide s m), fun s m => break_ok h' h4 (h.part s m) (h.wide s m)⟩
/-! ### the law's own elimination -/
structure LTab (n b c : Nat) (m : List (List Int)) : Prop where
  part : ∀ r ∈ m, ∀ x, x < n → (r.getD x 0).natAbs ≤ 2 ^ b
  due : ∀ r ∈ m, (r.getD n 0).natAbs ≤ 2 ^ c
theorem LTab.mono {n b c b' c' : Nat} {m : List (List Int)} (h : LTab n b c m) (hb : b ≤ b') (hc : c ≤ c') : LTab n b' c' m :=
  ⟨fun r hr x hx => Nat.le_trans (h.part r hr x hx) (pow_mono hb), fun r hr => Nat.le_trans (h.due r hr) (pow_mono hc)⟩
theorem fresh_part {n b c : Nat} {m : List (List Int)} (h : LTab n b c m) (hw : ∀ r ∈ m, r.length = n + 1) {r lead : List Int} (hr : r ∈ m) (hl : lead ∈ m) {k : Nat} (hk : k < n) : (∀ x, x < n → ((freshL r lead k).getD x 0).natAbs ≤ 2 ^ (2 * b + 1)) ∧ ((freshL r lead k).getD n 0).natAbs ≤ 2 ^ (c + b + 1) := by
  refine ⟨fun x hx => ?_, ?_⟩
  · rw [fresh_at (by rw [hw r hr, hw lead hl])]
    exact diff2 (h.part r hr x hx) (h.part lead hl k hk) (h.part lead hl x hx) (h.part r hr k hk) (by omega)
  · rw [fresh_at (by rw [hw r hr, hw lead hl])]
    rw [Int.mul_comm (lead.getD n 0)]
    exact diff2 (h.due r hr) (h.part lead hl k hk) (h.part r hr k hk) (h.due lead hl) (by omega)
theorem fdiv_le (x : Int) (g : Nat) : (x.fdiv (g : Int)).natAbs ≤ x.natAbs := by
  by_cases hg : g = 0
  · subst hg
    rw [show ((0 : Nat) : Int) = 0 from rfl, Int.fdiv_zero]
    exact Nat.zero_le _
  · rw [Int.fdiv_eq_ediv_of_nonneg _ (by omega)]
    exact Int.natAbs_ediv_le_natAbs x g
theorem rid_part {n b c : Nat} {m : List (List Int)} (h : LTab n b c m) (hw : ∀ r ∈ m, r.length = n + 1) {r lead : List Int} (hr : r ∈ m) (hl : lead ∈ m) {k : Nat} (hk : k < n) : (∀ x, x < n → ((ridL r lead k).getD x 0).natAbs ≤ 2 ^ (2 * b + 1)) ∧ ((ridL r lead k).getD n 0).natAbs ≤ 2 ^ (c + b + 1) := by
  obtain ⟨f1, f2⟩ := fresh_part h hw hr hl hk
  have dv : ∀ (x g : Nat), (((freshL r lead k).map fun c : Int => c.fdiv (g : Int)).getD x 0).natAbs ≤ ((freshL r lead k).getD x 0).natAbs := fun x g => by
    rw [List.getD_eq_getElem?_getD, List.getElem?_map, List.getD_eq_getElem?_getD]
    cases (freshL r lead k)[x]? with
    | none => exact Nat.le_refl _
    | some y => exact fdiv_le y g
  unfold ridL
  split
  · exact ⟨fun x hx => Nat.le_trans (h.part r hr x hx) (pow_mono (by omega)), Nat.le_trans (h.due r hr) (pow_mono (by omega))⟩
  · split
    · exact ⟨fun x hx => Nat.le_trans (dv x _) (f1 x hx), Nat.le_trans (dv n _) f2⟩
    · exact ⟨f1, f2⟩
theorem den6 {U : Int} {r : Rat} (h : r = (U : Rat) / 6) : r.den ≤ 6 ∧ r.num.natAbs ≤ U.natAbs := by
  have e : r = Rat.divInt U 6 := by rw [h, divInt_as]; rfl
  refine ⟨?_, ?_⟩
  · rw [e, Rat.den_divInt, if_neg (by decide)]
    exact Nat.div_le_self ..
  · rw [e, Rat.num_divInt]
    have : (6 : Int).sign = 1 := rfl
    rw [this, Int.one_mul]
    exact Int.natAbs_ediv_le_natAbs ..
theorem LTab.start (h : Bk n rows) : LTab n 13 60 (rows.map lineL) := by
  refine ⟨fun r hr x hx => ?_, fun r hr => ?_⟩
  · obtain ⟨s, hs, rfl⟩ := List.mem_map.mp hr
    obtain ⟨U, e, _⟩ := h.due s hs
    have hd := (den6 e).1
    unfold lineL
    rw [List.getD_eq_getElem?_getD, List.getElem?_append_left (by rw [List.length_map, h.wide s hs]; exact hx), List.getElem?_map, List.getElem?_eq_getElem (by rw [h.wide s hs]; exact hx)]
    show (s.1[x]'_ * (s.2.den : Int)).natAbs ≤ 2 ^ 13
    rw [Int.natAbs_mul, Int.natAbs_natCast]
    have hp := h.part s hs _ (List.getElem_mem (show x < s.1.length by rw [h.wide s hs]; exact hx))
    exact Nat.le_trans (Nat.mul_le_mul hp hd) (by decide)
  · obtain ⟨s, hs, rfl⟩ := List.mem_map.mp hr
    obtain ⟨U, e, l⟩ := h.due s hs
    have hd := (den6 e).2
    unfold lineL
    rw [List.getD_eq_getElem?_getD, List.getElem?_append_right (by rw [List.length_map, h.wide s hs]; exact Nat.le_refl _), List.length_map, h.wide s hs, Nat.sub_self]
    show (s.2.num).natAbs ≤ 2 ^ 60
    omega
theorem stepR_all {n b c : Nat} {st : List (List Int) × List (List Int)} {k : Nat} (hk : k < n) (hw : ∀ r ∈ st.1 ++ st.2, r.length = n + 1) (h : LTab n b c (st.1 ++ st.2)) : (stepR st k = st) ∨
    ((stepR st k).1.length = st.1.length + 1 ∧ (stepR st k).1.length + (stepR st k).2.length = st.1.length + st.2.length ∧ LTab n (2 * b + 1) (c + b + 1) ((stepR st k).1 ++ (stepR st k).2)) := by
  unfold stepR
  split
  · exact .inl rfl
  · rename_i i e
    obtain ⟨hi, _⟩ := firstAt_spec e
    have ml : st.2.getD i [] ∈ st.1 ++ st.2 := by
      rw [getD_at (List.getElem?_eq_getElem hi)]
      exact List.mem_append_right _ (List.getElem_mem hi)
    have all : ∀ r ∈ ((st.1.map fun r => ridL r (st.2.getD i []) k) ++ [st.2.getD i []]) ++ ((st.2.eraseIdx i).map fun r => ridL r (st.2.getD i []) k), (∀ x, x < n → (r.getD x 0).natAbs ≤ 2 ^ (2 * b + 1)) ∧ (r.getD n 0).natAbs ≤ 2 ^ (c + b + 1) := fun r hr => by
      rcases List.mem_append.mp hr with hr | hr
      · rcases List.mem_append.mp hr with hr | hr
        · obtain ⟨q, hq, rfl⟩ := List.mem_map.mp hr
          exact rid_part h hw (List.mem_append_left _ hq) ml hk
        · rw [List.mem_singleton.mp hr]
          exact ⟨fun x hx => Nat.le_trans (h.part _ ml x hx) (pow_mono (by omega)), Nat.le_trans (h.due _ ml) (pow_mono (by omega))⟩
      · obtain ⟨q, hq, rfl⟩ := List.mem_map.mp hr
        exact rid_part h hw (List.mem_append_right _ (List.mem_of_mem_eraseIdx hq)) ml hk
    refine .inr ⟨?_, ?_, ⟨fun r hr => (all r hr).1, fun r hr => (all r hr).2⟩⟩
    · rw [List.length_append, List.length_map, List.length_singleton]
    · rw [List.length_append, List.length_map, List.length_singleton, List.length_map, List.length_eraseIdx, if_pos hi]
      omega
theorem law_tab (h : Bk n rows) : ∀ k, k ≤ n → ((List.range k).foldl stepR ([], rows.map lineL)).1.length + ((List.range k).foldl stepR ([], rows.map lineL)).2.length = rows.length ∧
    LTab n (14 * 2 ^ ((List.range k).foldl stepR ([], rows.map lineL)).1.length - 1) (60 + 14 * 2 ^ ((List.range k).foldl stepR ([], rows.map lineL)).1.length + ((List.range k).foldl stepR ([], rows.map lineL)).1.length) (((List.range k).foldl stepR ([], rows.map lineL)).1 ++ ((List.range k).foldl stepR ([], rows.map lineL)).2)
  | 0, _ => ⟨by show 0 + (rows.map lineL).length = _; rw [List.length_map]; omega, (LTab.start h).mono (by show 13 ≤ 14 * 2 ^ 0 - 1; decide) (by show 60 ≤ 60 + 14 * 2 ^ 0 + 0; decide)⟩
  | k + 1, hk => by
    obtain ⟨h1, h2⟩ := law_tab h k (by omega)
    obtain ⟨L, iv⟩ := redL_inv h.wide k
    rw [List.range_succ, List.foldl_append]
    show (stepR ((List.range k).foldl stepR ([], rows.map lineL)) k).1.length + (stepR ((List.range k).foldl stepR ([], rows.map lineL)) k).2.length = _ ∧ LTab n (14 * 2 ^ (stepR ((List.range k).foldl stepR ([], rows.map lineL)) k).1.length - 1) _ _
    generalize (List.range k).foldl stepR ([], rows.map lineL) = st at *
    rcases stepR_all (k := k) (by omega) iv.wide h2 with e | ⟨e1, e2, e3⟩
    · show _ ∧ LTab n _ (60 + 14 * 2 ^ (stepR st k).1.length + (stepR st k).1.length) ((stepR st k).1 ++ (stepR st k).2)
      rw [e]
      exact ⟨h1, h2⟩
    · refine ⟨e2.trans h1, ?_⟩
      show LTab n _ (60 + 14 * 2 ^ (stepR st k).1.length + (stepR st k).1.length) ((stepR st k).1 ++ (stepR st k).2)
      rw [e1, Nat.pow_succ]
      have hp : 0 < 2 ^ st.1.length := Nat.pow_pos (by decide)
      exact e3.mono (by omega) (by omega)
theorem law_bound (h : Bk n rows) {k : Nat} (hk : k ≤ n) : ((List.range k).foldl stepR ([], rows.map lineL)).1.length + ((List.range k).foldl stepR ([], rows.map lineL)).2.length ≤ 8 ∧ LTab n 3583 3652 (((List.range k).foldl stepR ([], rows.map lineL)).1 ++ ((List.range k).foldl stepR ([], rows.map lineL)).2) := by
  obtain ⟨h1, h2⟩ := law_tab h k hk
  have := h.few
  have p : 2 ^ ((List.range k).foldl stepR ([], rows.map lineL)).1.length ≤ 2 ^ 8 := pow_mono (by omega)
  have : (2 : Nat) ^ 8 = 256 := by decide
  exact ⟨by omega, h2.mono (by omega) (by omega)⟩
theorem line_ok (h : Bk n rows) (h4 : n ≤ 11) {k : Nat} (hk : k ≤ n) : LineOk (n + 1) ((List.range k).foldl stepR ([], rows.map lineL)) := by
  obtain ⟨h1, h2⟩ := law_bound h hk
  obtain ⟨L, iv⟩ := redL_inv h.wide k
  refine ⟨iv.wide, fun r hr x hx => ?_, by omega⟩
  obtain ⟨i, hi, e⟩ := List.getElem_of_mem hx
  have ex : x = r.getD i 0 := by rw [getD_at (List.getElem?_eq_getElem hi), e]
  have := iv.wide r hr
  rw [ex]
  by_cases hin : i < n
  · exact lt_pow (h2.part r hr i hin) (by decide)
  · have : i = n := by omega
    rw [this]
    exact lt_pow (h2.due r hr) (by decide)
theorem gcd_lt {l : List Int} {k : Nat} (h : ∀ i, (l.getD i 0).natAbs < 2 ^ k) : gcdAll l < 2 ^ k := by
  by_cases z : gcdAll l = 0
  · rw [z]
    exact Nat.pow_pos (by decide)
  · have : ∃ x ∈ l, x ≠ 0 := Classical.byContradiction fun no => z (by
      have : (0 : Nat) ∣ gcdAll l := dvd_gcdAll fun x hx => by
        have : x = 0 := Classical.byContradiction fun q => no ⟨x, hx, q⟩
        rw [this]
        exact Nat.dvd_refl 0
      exact Nat.eq_zero_of_zero_dvd this)
    obtain ⟨x, hx, x0⟩ := this
    obtain ⟨i, hi, e⟩ := List.getElem_of_mem hx
    have := h i
    rw [getD_at (List.getElem?_eq_getElem hi), e] at this
    exact Nat.lt_of_le_of_lt (Nat.le_of_dvd (by omega) (gcdAll_dvd hx)) this
theorem fresh_gcd (h : Bk n rows) {k : Nat} (hk : k < n) : ∀ lead ∈ ((List.range k).foldl stepR ([], rows.map lineL)).2, ∀ r ∈ ((List.range k).foldl stepR ([], rows.map lineL)).1 ++ ((List.range k).foldl stepR ([], rows.map lineL)).2, gcdAll (freshL r lead k) < 2 ^ 9000 := fun lead hl r hr => by
  obtain ⟨h1, h2⟩ := law_bound h (Nat.le_of_lt hk)
  obtain ⟨L, iv⟩ := redL_inv h.wide k
  have ml := List.mem_append_right ((List.range k).foldl stepR ([], rows.map lineL)).1 hl
  obtain ⟨f1, f2⟩ := fresh_part h2 iv.wide hr ml hk
  have w1 := iv.wide r hr
  have w2 := iv.wide lead ml
  refine gcd_lt fun i => ?_
  by_cases hin : i < n
  · exact lt_pow (f1 i hin) (by decide)
  · by_cases e : i = n
    · rw [e]
      exact lt_pow f2 (by decide)
    · rw [getD_far (by rw [fresh_len (by omega)]; omega)]
      exact Nat.pow_pos (by decide)
end
end La
set_option Elab.async false
set_option linter.all false
set_option maxRecDepth 100000
set_option maxHeartbeats 4000000
set_option exponentiation.threshold 20000
set_option pp.deepTerms false
set_option pp.maxSteps 500
namespace K82
open PySem PySem.Spec PyProof.Rows L2 Pf
local macro_rules | `(tactic| walk_at "go") => `(tactic| (conv => whnf) <;> repeat ((first | refine atE rfl ?_ | refine andR ?_ ?_); (conv => whnf)))
local macro_rules | `(tactic| walk_at "wh") => `(tactic| conv => whnf)
local macro_rules | `(tactic| walk_at "len") => `(tactic| (intro os Q h; (repeat (obtain ⟨_, h⟩ := h)); subst_vars; rfl))
local macro_rules | `(tactic| walk_at "keep") => `(tactic| (intro os Q h; (repeat (obtain ⟨_, h⟩ := h)); subst_vars; simp [keepOk]))
local macro_rules | `(tactic| walk_at "mono") => `(tactic| (intro os k k' f; repeat (first | exact f _ _ | refine Exists.imp fun _ => ?_ | refine And.imp_right ?_ | refine forall_imp fun _ => ?_)))
/-! the law's own form -/
def sp_law_form : FSp := fun os Q => ∃ (rows : List Sm) (ns : List Str), os = [.d (bookD ns rows)] ∧ La.Bk ns.length rows ∧ 1 ≤ ns.length ∧ ns.length ≤ 11 ∧ Q (.d (sumsD (La.formL ns.length rows))) os
/-! ### _law_form -/
abbrev s_law_form : Stmt := topS 69
abbrev n_law_form : List Str := ["book", "line", "row"]
theorem sc_law_form : FnScope n_law_form ["book"] (defScope s_law_form) := ⟨rfl, rfl, rfl, by decide +kernel, rfl, by decide +kernel, by decide +kernel⟩
def r_law_form : RS := (rRet (rCB fTuple (rACons (rP (rD (rLc (rFs (rD (rOp dIx (rP (rD (rCall sp_law_reduced (rACons (rP (rD (rLc (rFs (rD (rOp dIx (rN 0) (rP (rC (.int 1)))))) (rGn 2) rYes (rD (rCall sp_law_line (rACons (rN 2) rANil))) [2]))) (rACons (rP (rD (rCB fLen (rACons (rP (rD (rOp dIx (rN 0) (rP (rC (.int 0)))))) rANil)))) rANil))))) (rP (rC (.int 0)))))) (rGn 1) rYes (rD (rCall sp_law_sum (rACons (rN 1) rANil))) [1]))) rANil)))
theorem q_law_form {P : Program} {w : World} {K : Fg} {mg : Str → Option Value} {base : Heap} {f : Addr} (g : Gs K mg) (h_law_reduced : Has P w K mg base "_law_reduced" ["lines", "many"] 3 sp_law_reduced) (h_law_line : Has P w K mg base "_law_line" ["row"] 1 sp_law_line) (h_law_sum : Has P w K mg base "_law_sum" ["line"] 3 sp_law_sum) (cdv : Value) (A : Around) (outer : List PySem.Env) (s : Shared) (H : Hp) (E : XK) (hr : Room 3 (A.deeper (envOfC "_law_form" (defScope s_law_form) s.heap.objs.size f cdv))) :
    QSs (cxOf CX0 P w K mg base n_law_form "_law_form" (defScope s_law_form) f cdv A outer s H E).nox [] (defBody s_law_form) r_law_form :=
  (qss_one (qs_ret (qe_tuple g.tuple (qa_cons ((QE.v (qe_lc (own := [("line", 1)]) rfl sc_law_form.nd (qf_seq (qv_ix ((QE.v (qe_call h_law_reduced (hr.mono (by decide)) (qa_cons ((QE.v (qe_lc (own := [("row", 2)]) rfl sc_law_form.nd (qf_seq (qv_ix (qp_var 0) (qv_int).p)) (blkOk_by (by rfl)) (fun _ _ _ _ _ => (qg_name 2 sc_law_form.nd)) (fun _ _ _ _ _ => qts_nil) (fun _ _ _ _ _ => (QE.v (qe_call h_law_line (hr.mono (by decide)) (qa_cons (qp_var 2) qa_nil))))))).p (qa_cons ((QE.v (qe_len g.len (qa_cons ((qv_ix (qp_var 0) (qv_int).p)).p qa_nil)))).p qa_nil))))).p (qv_int).p)) (blkOk_by (by rfl)) (fun _ _ _ _ _ => (qg_name 1 sc_law_form.nd)) (fun _ _ _ _ _ => qts_nil) (fun _ _ _ _ _ => (QE.v (qe_call h_law_sum (hr.mono (by decide)) (qa_cons (qp_var 1) qa_nil))))))).p qa_nil))))

theorem split_last {r : List Int} {n : Nat} (h : r.length = n + 1) : r = r.take n ++ [r.getD n 0] := by
  have h1 := List.take_append_drop n r
  have h2 : r.drop n = [r.getD n 0] := by
    refine List.ext_getElem? fun i => ?_
    rw [List.getElem?_drop]
    cases i with
    | zero =>
      rw [Nat.add_zero, List.getD_eq_getElem?_getD, List.getElem?_eq_getElem (show n < r.length by omega)]
      rfl
    | succ i => rw [List.getElem?_eq_none_iff.mpr (by omega)]; rfl
  rw [h2] at h1
  exact h1.symm
theorem m_law_form (os : List O) (Q : O → List O → Prop) (h : sp_law_form os Q) : Ends r_law_form n_law_form os Q := by
  obtain ⟨rows, ns, rfl, bk, n1, n11, q⟩ := h
  have hf := bk.few
  walk_at "go"
  refine lc_mapE (fun e => e = [some (.d (bookD ns rows)), none, none]) (ys := (rows.map lineL).map rowI) rfl (by simp) (by rw [List.length_map]; omega) ?_ ?_
  · rintro j x y k' _ rfl hx hy hk'
    obtain ⟨s, hs, rfl⟩ := get_map hx
    have hy2 : y = rowI (lineL s) := by
      rw [List.getElem?_map, List.getElem?_map, hs] at hy
      exact (Option.some.inj hy).symm
    subst hy2
    have hm := List.mem_of_getElem? hs
    obtain ⟨U, eU, _⟩ := bk.due s hm
    walk_at "wh"
    refine ⟨s, rfl, by rw [bk.wide s hm]; omega, fun p hp => Nat.lt_of_le_of_lt (bk.part s hm p hp) (Nat.lt_of_lt_of_le (by decide : 1000 < 2 ^ 10) (La.pow_mono (by decide))), Nat.lt_of_le_of_lt (La.den6 eU).1 (Nat.lt_of_lt_of_le (by decide : 6 < 2 ^ 3) (La.pow_mono (by decide))), ?_⟩
    walk_at "wh"
    exact hk' _ rfl
  rintro e rfl
  walk_at "go"
  refine ⟨rows.map lineL, ns.length, ns.length + 1, ?_, by omega, by omega, fun j hj => La.line_ok bk n11 hj, fun j hj => La.fresh_gcd bk hj, ?_⟩
  · show [O.d (.list ((rows.map lineL).map rowI)), O.d (.int ((ns.map PyData.str).length : Nat))] = _
    rw [List.length_map]
  have hlaw := La.formL_at bk.wide
  obtain ⟨L, iv, fat⟩ := hlaw
  have lok := La.line_ok bk n11 (Nat.le_refl ns.length)
  have few := (La.law_bound bk (Nat.le_refl ns.length)).1
  have edef : (List.range ns.length).foldl stepR ([], rows.map lineL) = redL (rows.map lineL) ns.length := rfl
  rw [edef] at lok few
  unfold La.formL at q
  generalize redL (rows.map lineL) ns.length = st at *
  obtain ⟨D0, L0⟩ := st
  dsimp only at q few fat
  walk_at "go"
  refine lc_mapE (fun e => e = [some (.d (bookD ns rows)), none, none]) (ys := (D0.map fun r => sumL (r.take ns.length) (r.getD ns.length 0)).map sumD) rfl (by simp) (by rw [List.length_map]; show D0.length ≤ 1000; omega) ?_ ?_
  · rintro j x y k' _ rfl hx hy hk'
    obtain ⟨r, hr, rfl⟩ := get_map hx
    have hy2 : y = sumD (sumL (r.take ns.length) (r.getD ns.length 0)) := by
      rw [List.getElem?_map, List.getElem?_map, hr] at hy
      exact (Option.some.inj hy).symm
    subst hy2
    have hm : r ∈ D0 ++ L0 := List.mem_append_left _ (List.mem_of_getElem? hr)
    have wr := iv.wide r hm
    obtain ⟨_, _, lead, _⟩ := fat j r hr
    walk_at "wh"
    refine ⟨r.take ns.length, r.getD ns.length 0, _, rfl, ?_, by rw [List.length_take]; omega, ⟨_, La.getD_mem lead.mem, lead.ne⟩, ?_, hk' _ rfl⟩
    · rw [← split_last wr]
      rfl
    · refine La.gcd_lt fun i => ?_
      by_cases hi : i < (r.take ns.length).length
      · have := La.getD_mem hi
        exact lok.fit r hm _ (List.mem_of_mem_take this)
      · rw [La.getD_far (by omega)]
        exact Nat.pow_pos (by decide)
  rintro e rfl
  walk_at "go"
  exact q
theorem f_law_form {P : Program} {w : World} {K : Fg} {mg : Str → Option Value} {base : Heap} {f : Addr} {fd : FuncData} (g : Gs K mg) (h_law_reduced : Has P w K mg base "_law_reduced" ["lines", "many"] 3 sp_law_reduced) (h_law_line : Has P w K mg base "_law_line" ["row"] 1 sp_law_line) (h_law_sum : Has P w K mg base "_law_sum" ["line"] 3 sp_law_sum) (F : Fun K "_law_form" "_law_form" s_law_form f fd) : FnOk P w K mg base CX0 4 f fd ["book"] (SpOf K sp_law_form) :=
  fn_ok F sc_law_form [] (fun cdv A outer s H E hr => q_law_form g h_law_reduced h_law_line h_law_sum cdv A outer s H E hr) (by walk_at "len") (by walk_at "keep") m_law_form
theorem mono_law_form : sp_law_form.Mono := by walk_at "mono"

end K82
set_option Elab.async false
set_option linter.all false
set_option maxRecDepth 100000
set_option maxHeartbeats 4000000
set_option exponentiation.threshold 20000
set_option pp.deepTerms false
set_option pp.maxSteps 500
namespace K82
open PySem PySem.Spec PyProof.Rows L2 Pf
local macro_rules | `(tactic| walk_at "go") => `(tactic| (conv => whnf) <;> repeat ((first | refine atE rfl ?_ | refine andR ?_ ?_); (conv => whnf)))
local macro_rules | `(tactic| walk_at "wh") => `(tactic| conv => whnf)
local macro_rules | `(tactic| walk_at "len") => `(tactic| (intro os Q h; (repeat (obtain ⟨_, h⟩ := h)); subst_vars; rfl))
local macro_rules | `(tactic| walk_at "keep") => `(tactic| (intro os Q h; (repeat (obtain ⟨_, h⟩ := h)); subst_vars; simp [keepOk]))
local macro_rules | `(tactic| walk_at "mono") => `(tactic| (intro os k k' f; repeat (first | exact f _ _ | refine Exists.imp fun _ => ?_ | refine And.imp_right ?_ | refine forall_imp fun _ => ?_)))
/-! the names of the figures -/
def chD (c : Nat) : D := .str ⟨#[c]⟩
def hdS (x : Str) : Nat := x.cps.toList.headD 0
structure FigOk (ns : List Str) : Prop where
  nd : (ns.map hdS).Nodup
  nm : ∀ x ∈ ns, x.cps.toList.getD 1 0 ≠ 48 ∧ ∀ c ∈ x.cps.toList, c < 128
structure FigInv (j : Nat) (S : List Nat) (ns : List Str) : Prop where
  ls : S.length + j = 26
  ln : ns.length = j
  nd : (S ++ ns.map hdS).Nodup
  ok : ∀ c ∈ S, c < 128
  nm : ∀ x ∈ ns, x.cps.toList.getD 1 0 ≠ 48 ∧ ∀ c ∈ x.cps.toList, c < 128
def sp_law_figures : FSp := fun os Q => ∃ (g : List Int) (c b : Int) (n : Nat), os = [.res (poolR g c b), .d (.int n)] ∧ PoolOk g c b ∧ n ≤ 10 ∧ ∀ g' c' b' (ns : List Str), PoolOk g' c' b' → ns.length = n → FigOk ns → Q (.d (strD ns)) [.res (poolR g' c' b'), .d (.int n)]
theorem mono_law_figures : sp_law_figures.Mono := fun os k k' f ⟨g, c, b, n, a1, a2, a3, h⟩ => ⟨g, c, b, n, a1, a2, a3, fun g' c' b' ns h1 h2 h3 => f _ _ (h g' c' b' ns h1 h2 h3)⟩
/-! ### _law_figures -/
abbrev s_law_figures : Stmt := topS 70
abbrev n_law_figures : List Str := ["cask", "many", "signs", "names", "turn"]
theorem sc_law_figures : FnScope n_law_figures ["cask", "many"] (defScope s_law_figures) := ⟨rfl, rfl, rfl, by decide +kernel, rfl, by decide +kernel, by decide +kernel⟩
def r_law_figures : RS := (rSeq (rSet 2 (rCB fList (rACons (rP (rC (.str "thequickbrownfxjmpsvlazydg"))) rANil)))
  (rSeq (rSet 3 (rLst rNil))
  (rSeq (rFor (rRng1 (rVar 1)) (rGn 4) (rDrop (rApp 3 (rD (rOp dAdd (rP (rD (rPopI 2 (rD (rCall sp_law_tap (rACons (rN 0) (rACons (rP (rD (rCB fLen (rACons (rN 2) rANil)))) rANil))))))) (rP (rD (rOp dIx (rP (rTup (rCons (rC (.str "")) (rCons (rC (.str "77")) (rCons (rC (.str "a")) (rCons (rC (.str "o1o")) rNil)))))) (rP (rD (rCall sp_law_tap (rACons (rN 0) (rACons (rP (rC (.int 4))) rANil)))))))))))))
  (rRet (rCB fTuple (rACons (rN 3) rANil))))))
theorem q_law_figures {P : Program} {w : World} {K : Fg} {mg : Str → Option Value} {base : Heap} {f : Addr} (g : Gs K mg) (h_law_tap : Has P w K mg base "_law_tap" ["pool", "many"] 1 sp_law_tap) (cdv : Value) (A : Around) (outer : List PySem.Env) (s : Shared) (H : Hp) (E : XK) (hr : Room 1 (A.deeper (envOfC "_law_figures" (defScope s_law_figures) s.heap.objs.size f cdv))) :
    QSs (cxOf CX0 P w K mg base n_law_figures "_law_figures" (defScope s_law_figures) f cdv A outer s H E).nox [0] (defBody s_law_figures) r_law_figures :=
  (qss_cons (qs_set 2 sc_law_figures.nd (qe_list rfl g.list (qa_cons (qv_str).p qa_nil)))
  (qss_cons (qs_set 3 sc_law_figures.nd (qe_lst ql_nil))
  (qss_cons (qs_for PassesOwn.never rfl (qf_range1 g.range (qv_var 1)) (qg_name 4 sc_law_figures.nd) (qss_one (qs_expr (qe_append 3 (QE.v (qe_add ((QE.v (qe_popI 2 (QE.v (qe_call h_law_tap (hr.mono (by decide)) (qa_cons (qp_var 0) (qa_cons ((QE.v (qe_len g.len (qa_cons (qp_var 2) qa_nil)))).p qa_nil))))))).p ((qv_ix ((qv_tup (ql_cons qv_str (ql_cons qv_str (ql_cons qv_str (ql_cons qv_str ql_nil)))))).p ((QE.v (qe_call h_law_tap (hr.mono (by decide)) (qa_cons (qp_var 0) (qa_cons (qv_int).p qa_nil))))).p)).p))))))
  (qss_one (qs_ret (qe_tuple g.tuple (qa_cons (qp_var 3) qa_nil)))))))

theorem fig_start : FigInv 0 ("thequickbrownfxjmpsvlazydg" : Str).cps.toList [] := ⟨by decide +kernel, rfl, by decide +kernel, by decide +kernel, by simp⟩
theorem mem_of_erase {α : Type} : ∀ {l : List α} {i : Nat} {x : α}, l[i]? = some x → (x :: l.eraseIdx i).Perm l
  | [], _, _, h => by simp at h
  | y :: l, 0, x, h => by
    have e : y = x := by simpa using h
    rw [e]
    exact List.Perm.refl _
  | y :: l, i + 1, x, h => by
    have h : l[i]? = some x := by simpa using h
    exact (List.Perm.swap y x _).trans ((mem_of_erase h).cons y)
theorem fig_step {j i : Nat} {S : List Nat} {ns : List Str} {c : Nat} {suf : Str} (h : FigInv j S ns) (hc : S[i]? = some c) (h0 : suf.cps.toList.getD 0 0 ≠ 48) (h1 : ∀ d ∈ suf.cps.toList, d < 128) : FigInv (j + 1) (S.eraseIdx i) (ns ++ [⟨#[c]⟩ ++ suf]) := by
  have hi := (List.getElem?_eq_some_iff.mp hc).1
  have el : ((⟨#[c]⟩ ++ suf : Str)).cps.toList = c :: suf.cps.toList := by
    show (#[c] ++ suf.cps).toList = _
    rw [Array.toList_append]
    rfl
  have ls := h.ls
  refine ⟨by rw [List.length_eraseIdx, if_pos hi]; omega, by rw [List.length_append, h.ln]; rfl, ?_, fun d hd => h.ok d (List.mem_of_mem_eraseIdx hd), fun x hx => ?_⟩
  · have p := mem_of_erase hc
    have : (S.eraseIdx i ++ (ns ++ [⟨#[c]⟩ ++ suf]).map hdS).Perm (S ++ ns.map hdS) := by
      rw [List.map_append, ← List.append_assoc]
      have e : [(⟨#[c]⟩ ++ suf : Str)].map hdS = [c] := by
        show [((⟨#[c]⟩ ++ suf : Str)).cps.toList.headD 0] = [c]
        rw [el]
        rfl
      rw [e]
      refine (List.perm_append_singleton c _).trans ?_
      exact (List.Perm.append_right (ns.map hdS) p)
    exact this.nodup_iff.mpr h.nd
  · rcases List.mem_append.mp hx with hx | hx
    · exact h.nm x hx
    · rw [List.mem_singleton.mp hx, el]
      refine ⟨by simpa using h0, fun d hd => ?_⟩
      rcases List.mem_cons.mp hd with hd | hd
      · rw [hd]
        exact h.ok c (List.mem_of_getElem? hc)
      · exact h1 d hd
theorem seqIx {t : Int} {n : Nat} (h0 : 0 ≤ t) (h1 : t < n) : seqIndex? t n = some t.toNat := by
  obtain ⟨m, rfl⟩ := Int.eq_ofNat_of_zero_le h0
  unfold seqIndex?
  have h2 : ¬ ((m : Int) < 0) := by omega
  simp [h2]
  omega
theorem atI_int {xs : List D} {t : Int} {x : D} (h0 : 0 ≤ t) (h : xs[t.toNat]? = some x) : atI xs t = some x := by
  obtain ⟨m, rfl⟩ := Int.eq_ofNat_of_zero_le h0
  exact atI_nat h
theorem m_law_figures (os : List O) (Q : O → List O → Prop) (h : sp_law_figures os Q) : Ends r_law_figures n_law_figures os Q := by
  obtain ⟨g, c, b, n, rfl, ok, hn, q⟩ := h
  walk_at "go"
  · refine ⟨fun j e => ∃ g c b S ns o4, e = [some (.res (poolR g c b)), some (.d (.int n)), some (.own (S.map chD)), some (.own (ns.map PyData.str)), o4] ∧ PoolOk g c b ∧ FigInv j S ns, ⟨g, c, b, _, [], none, rfl, ok, fig_start⟩, ?_, ?_⟩
    · rintro j x e hx ⟨g, c, b, S, ns, o4, rfl, ok, iv⟩
      obtain ⟨ex, hj⟩ := rngD_at hx
      subst ex
      have ls := iv.ls
      have ln := iv.ln
      walk_at "go"
      refine ⟨g, c, b, _, rfl, ok, by rw [List.length_map]; omega, fun g' c' b' t ok' h0 ht => ?_⟩
      rw [List.length_map] at ht
      have ht : t < S.length := by omega
      obtain ⟨ch, hch, _⟩ := getAt (show t.toNat < S.length by omega)
      walk_at "wh"
      refine ⟨t.toNat, chD ch, by omega, by omega, by rw [List.length_map]; exact seqIx h0 ht, by rw [List.getElem?_map, hch]; rfl, ?_⟩
      walk_at "go"
      refine ⟨g', c', b', _, rfl, ok', by omega, fun g'' c'' b'' u ok'' h0' hu => ?_⟩
      have hu : u < 4 := by omega
      have suf : ∃ sf : Str, [PyData.str "", .str "77", .str "a", .str "o1o"][u.toNat]? = some (.str sf) ∧ sf.cps.toList.getD 0 0 ≠ 48 ∧ (∀ d ∈ sf.cps.toList, d < 128) ∧ sf.length ≤ 3 := by
        obtain ⟨m, rfl⟩ := Int.eq_ofNat_of_zero_le h0'
        match m, hu with
        | 0, _ => exact ⟨_, rfl, by decide +kernel, by decide +kernel, by decide +kernel⟩
        | 1, _ => exact ⟨_, rfl, by decide +kernel, by decide +kernel, by decide +kernel⟩
        | 2, _ => exact ⟨_, rfl, by decide +kernel, by decide +kernel, by decide +kernel⟩
        | 3, _ => exact ⟨_, rfl, by decide +kernel, by decide +kernel, by decide +kernel⟩
        | m + 4, h => omega
      obtain ⟨sf, es, s0, s1, s2⟩ := suf
      walk_at "wh"
      refine ⟨_, atI_int h0' es, ?_⟩
      walk_at "go"
      · exact ⟨g'', c'', b'', S.eraseIdx t.toNat, ns ++ [⟨#[ch]⟩ ++ sf], _, by
          rw [List.map_append, ← map_erase]
          rfl, ok'', fig_step iv hch s0 s1⟩
      · show (ns.map PyData.str).length < sizeLine
        rw [List.length_map]
        exact Pf.small64 (by omega)
      · show 1 + sf.length ≤ sizeLine
        exact Nat.le_of_lt (Pf.small64 (by omega))
      · exact (by decide : 4 ≤ sizeLine)
    · rintro e ⟨g, c, b, S, ns, o4, rfl, ok, iv⟩
      rw [show (rngD 0 (n : Int)).length = n by rw [rngD_len]; omega] at iv
      walk_at "go"
      exact q g c b ns ok iv.ln ⟨(List.nodup_append.mp iv.nd).2.1, iv.nm⟩
  · omega
  · omega
  · exact Nat.zero_le _
  · exact Nat.le_of_lt (Pf.small64 (Nat.le_trans (by decide +kernel : ("thequickbrownfxjmpsvlazydg" : Str).length ≤ 26) (by decide)))
theorem f_law_figures {P : Program} {w : World} {K : Fg} {mg : Str → Option Value} {base : Heap} {f : Addr} {fd : FuncData} (g : Gs K mg) (h_law_tap : Has P w K mg base "_law_tap" ["pool", "many"] 1 sp_law_tap) (F : Fun K "_law_figures" "_law_figures" s_law_figures f fd) : FnOk P w K mg base CX0 2 f fd ["cask", "many"] (SpOf K sp_law_figures) :=
  fn_ok F sc_law_figures [0] (fun cdv A outer s H E hr => q_law_figures g h_law_tap cdv A outer s H E hr) (by walk_at "len") (by walk_at "keep") m_law_figures

end K82
set_option Elab.async false
set_option linter.all false
set_option maxRecDepth 100000
set_option maxHeartbeats 1000000
set_option exponentiation.threshold 20000
set_option pp.deepTerms false
set_option pp.maxSteps 500
namespace K82
open PySem PySem.Spec PyProof.Rows L2 Pf
local macro_rules | `(tactic| walk_at "go") => `(tactic| (conv => whnf) <;> repeat ((first | refine atE rfl ?_ | refine andR ?_ ?_); (conv => whnf)))
local macro_rules | `(tactic| walk_at "wh") => `(tactic| conv => whnf)
local macro_rules | `(tactic| walk_at "len") => `(tactic| (intro os Q h; (repeat (obtain ⟨_, h⟩ := h)); subst_vars; rfl))
local macro_rules | `(tactic| walk_at "keep") => `(tactic| (intro os Q h; (repeat (obtain ⟨_, h⟩ := h)); subst_vars; simp [keepOk]))
local macro_rules | `(tactic| walk_at "mono") => `(tactic| (intro os k k' f; repeat (first | exact f _ _ | refine Exists.imp fun _ => ?_ | refine And.imp_right ?_ | refine forall_imp fun _ => ?_)))
/-! the figures in another sequence -/
structure OrdOk (n : Nat) (order : List Nat) : Prop where
  len : order.length = n
  mem : ∀ x, x ∈ order ↔ x < n
  nd : order.Nodup
def turnN (order : List Nat) (ns : List Str) : List Str := order.map fun i => ns.getD i Str.empty
def turnP (order : List Nat) (p : List Int) : List Int := order.map fun i => p.getD i 0
def turnR (order : List Nat) (rows : List Sm) : List Sm := rows.map fun s => (turnP order s.1, s.2)
def sp_law_turned : FSp := fun os Q => ∃ (g : List Int) (c b : Int) (ns : List Str) (rows : List Sm), os = [.res (poolR g c b), .d (bookD ns rows)] ∧ PoolOk g c b ∧ ns.length ≤ 10 ∧ rows.length ≤ 8 ∧ (∀ s ∈ rows, s.1.length = ns.length) ∧
  ∀ g' c' b' order, PoolOk g' c' b' → OrdOk ns.length order → Q (.d (bookD (turnN order ns) (turnR order rows))) [.res (poolR g' c' b'), .d (bookD ns rows)]
theorem mono_law_turned : sp_law_turned.Mono := fun os k k' f ⟨g, c, b, ns, rows, a1, a2, a3, a4, a5, h⟩ => ⟨g, c, b, ns, rows, a1, a2, a3, a4, a5, fun g' c' b' o h1 h2 => f _ _ (h g' c' b' o h1 h2)⟩
/-! ### _law_turned -/
abbrev s_law_turned : Stmt := topS 74
abbrev n_law_turned : List Str := ["cask", "book", "order", "at", "rows", "row"]
theorem sc_law_turned : FnScope n_law_turned ["cask", "book"] (defScope s_law_turned) := ⟨rfl, rfl, rfl, by decide +kernel, rfl, by decide +kernel, by decide +kernel⟩
def r_law_turned : RS := (rSeq (rSet 2 (rLst rNil))
  (rSeq (rFor (rRng1 (rD (rCB fLen (rACons (rP (rD (rOp dIx (rN 1) (rP (rC (.int 0)))))) rANil)))) (rGn 3) (rDrop (rIns 2 (rD (rCall sp_law_tap (rACons (rN 0) (rACons (rP (rD (rOp dAdd (rP (rD (rCB fLen (rACons (rN 2) rANil)))) (rP (rC (.int 1)))))) rANil)))) (rVar 3))))
  (rSeq (rSet 4 (rLc (rFs (rD (rOp dIx (rN 1) (rP (rC (.int 1)))))) (rGn 5) rYes (rTup (rCons (rD (rCB fTuple (rACons (rP (rD (rLc (rFs (rVar 2)) (rGn 3) rYes (rD (rOp dIx (rP (rD (rOp dIx (rN 5) (rP (rC (.int 0)))))) (rN 3))) [3]))) rANil))) (rCons (rD (rOp dIx (rN 5) (rP (rC (.int 1))))) rNil))) [5]))
  (rRet (rO (rTup (rCons (rD (rCB fTuple (rACons (rP (rD (rLc (rFs (rVar 2)) (rGn 3) rYes (rD (rOp dIx (rP (rD (rOp dIx (rN 1) (rP (rC (.int 0)))))) (rN 3))) [3]))) rANil))) (rCons (rD (rCB fTuple (rACons (rN 4) rANil))) rNil))))))))
theorem q_law_turned {P : Program} {w : World} {K : Fg} {mg : Str → Option Value} {base : Heap} {f : Addr} (g : Gs K mg) (h_law_tap : Has P w K mg base "_law_tap" ["pool", "many"] 1 sp_law_tap) (cdv : Value) (A : Around) (outer : List PySem.Env) (s : Shared) (H : Hp) (E : XK) (hr : Room 1 (A.deeper (envOfC "_law_turned" (defScope s_law_turned) s.heap.objs.size f cdv))) :
    QSs (cxOf CX0 P w K mg base n_law_turned "_law_turned" (defScope s_law_turned) f cdv A outer s H E).nox [0] (defBody s_law_turned) r_law_turned :=
  (qss_cons (qs_set 2 sc_law_turned.nd (qe_lst ql_nil))
  (qss_cons (qs_for PassesOwn.never rfl (qf_range1 g.range (QE.v (qe_len g.len (qa_cons ((qv_ix (qp_var 1) (qv_int).p)).p qa_nil)))) (qg_name 3 sc_law_turned.nd) (qss_one (qs_expr (qe_insert 2 (QE.v (qe_call h_law_tap (hr.mono (by decide)) (qa_cons (qp_var 0) (qa_cons ((QE.v (qe_add ((QE.v (qe_len g.len (qa_cons (qp_var 2) qa_nil)))).p (qv_int).p))).p qa_nil)))) (qv_var 3)))))
  (qss_cons (qs_setLc (own := [("row", 5)]) 4 rfl sc_law_turned.nd (qf_seq (qv_ix (qp_var 1) (qv_int).p)) (blkOk_by (by rfl)) (fun _ _ _ _ _ => (qg_name 5 sc_law_turned.nd)) (fun _ _ _ _ _ => qts_nil) (fun _ _ _ _ _ => (qv_tup (ql_cons (QE.v (qe_tuple g.tuple (qa_cons ((QE.v (qe_lc (own := [("at", 3)]) rfl sc_law_turned.nd (qf_seq (qv_var 2)) (blkOk_by (by rfl)) (fun _ _ _ _ _ => (qg_name 3 sc_law_turned.nd)) (fun _ _ _ _ _ => qts_nil) (fun _ _ _ _ _ => (qv_ix ((qv_ix (qp_var 5) (qv_int).p)).p (qp_var 3)))))).p qa_nil))) (ql_cons (qv_ix (qp_var 5) (qv_int).p) ql_nil)))))
  (qss_one (qs_ret (QV.o (qv_tup (ql_cons (QE.v (qe_tuple g.tuple (qa_cons ((QE.v (qe_lc (own := [("at", 3)]) rfl sc_law_turned.nd (qf_seq (qv_var 2)) (blkOk_by (by rfl)) (fun _ _ _ _ _ => (qg_name 3 sc_law_turned.nd)) (fun _ _ _ _ _ => qts_nil) (fun _ _ _ _ _ => (qv_ix ((qv_ix (qp_var 1) (qv_int).p)).p (qp_var 3)))))).p qa_nil))) (ql_cons (QE.v (qe_tuple g.tuple (qa_cons (qp_var 4) qa_nil))) ql_nil)))))))))

theorem ord_start : OrdOk 0 [] := ⟨rfl, by simp, by simp⟩
theorem ord_step {n : Nat} {order : List Nat} (h : OrdOk n order) (t : Nat) : OrdOk (n + 1) (order.take t ++ [n] ++ order.drop t) := by
  have p : (order.take t ++ [n] ++ order.drop t).Perm (n :: order) := by
    rw [List.append_assoc]
    refine (List.perm_append_comm.trans ?_)
    show (n :: (order.drop t ++ order.take t)).Perm (n :: order)
    refine List.Perm.cons n (List.perm_append_comm.trans ?_)
    rw [List.take_append_drop]
  refine ⟨by rw [p.length_eq, List.length_cons, h.len], fun x => ?_, p.nodup_iff.mpr ?_⟩
  · rw [p.mem_iff, List.mem_cons, h.mem]
    omega
  · rw [List.nodup_cons]
    exact ⟨fun m => by have := (h.mem n).mp m; omega, h.nd⟩
theorem m_law_turned (os : List O) (Q : O → List O → Prop) (h : sp_law_turned os Q) : Ends r_law_turned n_law_turned os Q := by
  obtain ⟨g, c, b, ns, rows, rfl, ok, hn, hr, hw, q⟩ := h
  have lns : (ns.map PyData.str).length = ns.length := List.length_map _
  walk_at "go"
  · refine ⟨fun j e => ∃ g c b order o3, e = [some (.res (poolR g c b)), some (.d (bookD ns rows)), some (.own (natD order)), o3, none, none] ∧ PoolOk g c b ∧ OrdOk j order ∧ (o3 = none ∨ ∃ d, o3 = some (.d d)), ⟨g, c, b, [], none, rfl, ok, ord_start, .inl rfl⟩, ?_, ?_⟩
    · rintro j x e hx ⟨g, c, b, order, o3, rfl, ok, iv, _⟩
      obtain ⟨ex, hj⟩ := rngD_at hx
      subst ex
      rw [lns] at hj
      have lo := iv.len
      walk_at "go"
      refine ⟨g, c, b, _, rfl, ok, by rw [natD_len]; omega, fun g' c' b' t ok' h0 ht => ?_⟩
      rw [natD_len] at ht
      have ht : t < order.length + 1 := by omega
      walk_at "go"
      · refine ⟨g', c', b', order.take t.toNat ++ [j] ++ order.drop t.toNat, some (.d (.int (0 + (j : Nat)))), ?_, ok', ord_step iv _, .inr ⟨_, rfl⟩⟩
        have e0 : (0 + (j : Nat) : Int) = (j : Int) := by omega
        rw [e0]
        unfold natD
        rw [List.map_append, List.map_append, List.map_take, List.map_drop]
        rfl
      · omega
      · exact h0
      · show (natD order).length < sizeLine
        rw [natD_len]
        exact Pf.small64 (by omega)
    · rintro e ⟨g, c, b, order, o3, rfl, ok, iv, ho3⟩
      rw [show (rngD 0 ((ns.map PyData.str).length : Nat)).length = ns.length by rw [rngD_len, lns]; omega] at iv
      have lo := iv.len
      -- the places of a list in the sequence
      have pick : ∀ {α : Type} (f : α → D) (d : α) (l : List α), l.length = ns.length → ∀ (i : Nat) (x y : D), (natD order)[i]? = some x → ((order.map fun i => l.getD i d).map f)[i]? = some y → ∃ j : Nat, x = .int (j : Nat) ∧ atI (l.map f) ((j : Nat) : Int) = some y := by
        intro α f d l hl i x y hx hy
        obtain ⟨j, hj, rfl⟩ := get_map hx
        rw [List.getElem?_map, List.getElem?_map, hj] at hy
        have hy : f (l.getD j d) = y := Option.some.inj hy
        have hjn : j < l.length := by rw [hl]; exact (iv.mem j).mp (List.mem_of_getElem? hj)
        refine ⟨j, rfl, ?_⟩
        rw [← hy]
        refine atI_map (f := f) (xs := l) ?_
        rw [List.getD_eq_getElem?_getD, List.getElem?_eq_getElem hjn]
        rfl
      rcases ho3 with rfl | ⟨d3, rfl⟩
      all_goals
        walk_at "go"
        refine lc_mapE (fun e => ∃ fr, e = [some (.res (poolR g c b)), some (.d (bookD ns rows)), some (lend fr (natD order)), _, none, none]) (ys := (turnR order rows).map sumD) ⟨false, rfl⟩ (by unfold turnR; simp) (by rw [List.length_map]; omega) ?_ ?_
        · rintro j x y k' _ ⟨fr, rfl⟩ hx hy hk'
          obtain ⟨s, hs, rfl⟩ := get_map hx
          have hy2 : y = sumD (turnP order s.1, s.2) := by
            unfold turnR at hy
            rw [List.getElem?_map, List.getElem?_map, hs] at hy
            exact (Option.some.inj hy).symm
          subst hy2
          have hm := List.mem_of_getElem? hs
          cases fr
          all_goals
            walk_at "go"
            refine lc_mapE (fun e => e = [some (.res (poolR g c b)), some (.d (bookD ns rows)), some (lend true (natD order)), _, none, some (.d (sumD s))]) (ys := zD (turnP order s.1)) rfl (by unfold zD turnP; rw [natD_len, List.length_map, List.length_map]) (by rw [natD_len]; omega) ?_ ?_
            · rintro i x y k'' _ rfl hx2 hy2 hk2
              obtain ⟨m, rfl, ha⟩ := pick PyData.int 0 s.1 (hw s hm) i x y hx2 hy2
              walk_at "go"
              refine ⟨_, ha, ?_⟩
              walk_at "wh"
              exact hk2 _ rfl
            rintro e rfl
            walk_at "go"
            · exact hk' _ ⟨true, rfl⟩
            · exact (by decide : 2 ≤ sizeLine)
        rintro e ⟨fr, rfl⟩
        cases fr
        all_goals
          walk_at "go"
          refine lc_mapE (fun e => e = [some (.res (poolR g c b)), some (.d (bookD ns rows)), some (lend true (natD order)), _, some (.own ((turnR order rows).map sumD)), none]) (ys := (turnN order ns).map PyData.str) rfl (by unfold turnN; rw [natD_len, List.length_map, List.length_map]) (by rw [natD_len]; omega) ?_ ?_
          · rintro i x y k'' _ rfl hx2 hy2 hk2
            obtain ⟨m, rfl, ha⟩ := pick PyData.str Str.empty ns rfl i x y hx2 hy2
            walk_at "go"
            refine ⟨_, ha, ?_⟩
            walk_at "wh"
            exact hk2 _ rfl
          rintro e rfl
          walk_at "go"
          · exact q g c b order ok iv
          · exact (by decide : 2 ≤ sizeLine)
  · rw [lns]; omega
  · omega
  · exact Nat.zero_le _
theorem f_law_turned {P : Program} {w : World} {K : Fg} {mg : Str → Option Value} {base : Heap} {f : Addr} {fd : FuncData} (g : Gs K mg) (h_law_tap : Has P w K mg base "_law_tap" ["pool", "many"] 1 sp_law_tap) (F : Fun K "_law_turned" "_law_turned" s_law_turned f fd) : FnOk P w K mg base CX0 2 f fd ["cask", "book"] (SpOf K sp_law_turned) :=
  fn_ok F sc_law_turned [0] (fun cdv A outer s H E hr => q_law_turned g h_law_tap cdv A outer s H E hr) (by walk_at "len") (by walk_at "keep") m_law_turned

end K82
set_option Elab.async false
set_option linter.all false
set_option maxRecDepth 100000
set_option maxHeartbeats 1000000
set_option exponentiation.threshold 20000
/-! La: the law's mixing loses nothing. -/
namespace La
open PySem PySem.Spec PyProof.Rows L2 Pf K82
theorem stepL_val {t : Int × Int} (h : t.2 ≠ 0) (p : Int × Rat) : (stepL t p).2 ≠ 0 ∧ ((stepL t p).1 : Rat) / ((stepL t p).2 : Rat) = (t.1 : Rat) / (t.2 : Rat) + (p.1 : Rat) * p.2 := by
  have h2 := i_ne h
  unfold stepL
  split
  · rename_i e
    refine ⟨h, ?_⟩
    rw [e, i0]
    grind
  · have hd := p.2.den_nz
    have hdr := den_ne0 p.2
    have hq := q_den p.2
    refine ⟨Int.mul_ne_zero h (by omega), ?_⟩
    dsimp only
    rw [Rat.intCast_add, Rat.intCast_mul, Rat.intCast_mul, Rat.intCast_mul, Rat.intCast_mul, Rat.intCast_natCast, ← hq]
    generalize (p.2.den : Rat) = d at *
    generalize (t.1 : Rat) = u at *
    generalize (t.2 : Rat) = v at *
    grind
theorem added2 (f g : Int) (r q : Rat) : (addedL (List.zip [f, g] [r, q])).2 ≠ 0 ∧ Rat.divInt (addedL (List.zip [f, g] [r, q])).1 (addedL (List.zip [f, g] [r, q])).2 = (f : Rat) * r + (g : Rat) * q := by
  obtain ⟨h1, e1⟩ := stepL_val (t := (0, 1)) (by decide) (f, r)
  obtain ⟨h2, e2⟩ := stepL_val h1 (g, q)
  refine ⟨h2, ?_⟩
  rw [divInt_as]
  refine e2.trans ?_
  rw [e1]
  show ((0 : Int) : Rat) / ((1 : Int) : Rat) + _ + _ = _
  rw [i0]
  grind
theorem times_vec (s u : Sm) (f g : Int) (hl : s.1.length = u.1.length) (x : Nat) : vecS (timesP s u f g, timesD s u f g) x = (f : Rat) * vecS s x + (g : Rat) * vecS u x := by
  have hlen : (timesP s u f g).length = s.1.length := by
    unfold timesP
    rw [List.length_zipWith]
    omega
  by_cases hx : x < s.1.length
  · rw [vecS_part (show x < (timesP s u f g, timesD s u f g).1.length by show x < (timesP s u f g).length; omega), vecS_part hx, vecS_part (by omega)]
    show (((timesP s u f g).getD x 0 : Int) : Rat) = _
    unfold timesP
    rw [List.getD_eq_getElem?_getD, List.getElem?_zipWith, List.getD_eq_getElem?_getD (l := s.1), List.getD_eq_getElem?_getD (l := u.1), List.getElem?_eq_getElem hx, List.getElem?_eq_getElem (show x < u.1.length by omega)]
    show ((f * s.1[x] + g * u.1[x] : Int) : Rat) = (f : Rat) * ((s.1[x] : Int) : Rat) + (g : Rat) * ((u.1[x] : Int) : Rat)
    rw [Rat.intCast_add, Rat.intCast_mul, Rat.intCast_mul]
  · by_cases e : x = s.1.length
    · have e1 : vecS (timesP s u f g, timesD s u f g) x = timesD s u f g := by
        have := vecS_due (s := (timesP s u f g, timesD s u f g))
        have e2 : (timesP s u f g, timesD s u f g).1.length = x := by show (timesP s u f g).length = x; omega
        rw [e2] at this
        exact this
      have e2 : vecS s x = s.2 := by rw [e, vecS_due]
      have e3 : vecS u x = u.2 := by rw [e, hl, vecS_due]
      rw [e1, e2, e3]
      exact (added2 f g s.2 u.2).2
    · rw [vecS_far (show (timesP s u f g, timesD s u f g).1.length < x by show (timesP s u f g).length < x; omega), vecS_far (by omega), vecS_far (by omega)]
      grind
/-- dues over six -/
def Due6 (k : Nat) (r : Rat) : Prop := ∃ U : Int, r = (U : Rat) / 6 ∧ U.natAbs ≤ 2 ^ k
theorem Due6.mono {k l : Nat} {r : Rat} (h : Due6 k r) (hl : k ≤ l) : Due6 l r := let ⟨U, e, u⟩ := h; ⟨U, e, Nat.le_trans u (pow_mono hl)⟩
theorem due6_times {s u : Sm} {f g : Int} {k l : Nat} (hs : Due6 k s.2) (hu : Due6 k u.2) (hf : f.natAbs + g.natAbs ≤ 2 ^ l) : Due6 (k + l) (timesD s u f g) := by
  obtain ⟨U, e, a⟩ := hs
  obtain ⟨W, e', b⟩ := hu
  refine ⟨f * U + g * W, ?_, ?_⟩
  · show Rat.divInt _ _ = _
    rw [(added2 f g s.2 u.2).2, e, e', Rat.intCast_add, Rat.intCast_mul, Rat.intCast_mul]
    grind
  · have h1 : (f * U).natAbs = f.natAbs * U.natAbs := Int.natAbs_mul ..
    have h2 : (g * W).natAbs = g.natAbs * W.natAbs := Int.natAbs_mul ..
    have h3 : f.natAbs * U.natAbs ≤ f.natAbs * 2 ^ k := Nat.mul_le_mul_left _ a
    have h4 : g.natAbs * W.natAbs ≤ g.natAbs * 2 ^ k := Nat.mul_le_mul_left _ b
    have h5 : (f.natAbs + g.natAbs) * 2 ^ k ≤ 2 ^ l * 2 ^ k := Nat.mul_le_mul_right _ hf
    rw [← Nat.pow_add, Nat.add_comm l k, Nat.add_mul] at h5
    omega
theorem addL_ok {f g : Int} {r q : Rat} (hf : f.natAbs ≤ 4) (hg : g.natAbs ≤ 4) (hr : Due6 60 r) (hq : Due6 60 q) : AddLOk [f, g] [r, q] := by
  obtain ⟨U, e, a⟩ := hr
  obtain ⟨W, e', b⟩ := hq
  obtain ⟨d1, n1⟩ := den6 e
  obtain ⟨d2, n2⟩ := den6 e'
  have p : ∀ {t : Int × Int} {p : Int × Rat} {k : Nat}, t.1.natAbs ≤ 2 ^ k → t.2.natAbs ≤ 2 ^ k → p.1.natAbs ≤ 4 → p.2.den ≤ 6 → p.2.num.natAbs ≤ 2 ^ 60 → (stepL t p).1.natAbs ≤ 2 ^ (k + 70) ∧ (stepL t p).2.natAbs ≤ 2 ^ (k + 70) := by
    intro t p k h1 h2 h3 h4 h5
    unfold stepL
    split
    · exact ⟨Nat.le_trans h1 (pow_mono (by omega)), Nat.le_trans h2 (pow_mono (by omega))⟩
    · dsimp only
      have h4' : p.2.den ≤ 2 ^ 3 := Nat.le_trans h4 (by decide)
      have h3' : p.1.natAbs ≤ 2 ^ 2 := Nat.le_trans h3 (by decide)
      have m1 := mul2 h1 h4'
      have m2 := mul2 (mul2 h3' h5) h2
      have m3 := mul2 h2 h4'
      have e1 : (t.1 * (p.2.den : Int)).natAbs = t.1.natAbs * p.2.den := by rw [Int.natAbs_mul, Int.natAbs_natCast]
      have e2 : (p.1 * p.2.num * t.2).natAbs = p.1.natAbs * p.2.num.natAbs * t.2.natAbs := by rw [Int.natAbs_mul, Int.natAbs_mul]
      have e3 : (t.2 * (p.2.den : Int)).natAbs = t.2.natAbs * p.2.den := by rw [Int.natAbs_mul, Int.natAbs_natCast]
      have q1 : 2 ^ (k + 3) ≤ 2 ^ (k + 69) := pow_mono (by omega)
      have q2 : 2 ^ (2 + 60 + k) ≤ 2 ^ (k + 69) := pow_mono (by omega)
      have q3 : 2 ^ (k + 70) = 2 ^ (k + 69) * 2 := by rw [show k + 70 = k + 69 + 1 by omega, Nat.pow_succ]
      exact ⟨by omega, by omega⟩
  have s0 : (((0 : Int), (1 : Int)) : Int × Int).1.natAbs ≤ 2 ^ 0 ∧ (((0 : Int), (1 : Int)) : Int × Int).2.natAbs ≤ 2 ^ 0 := by decide
  have s1 := p (p := (f, r)) s0.1 s0.2 hf d1 (Nat.le_trans n1 a)
  have s2 := p (p := (g, q)) s1.1 s1.2 hg d2 (Nat.le_trans n2 b)
  have lt : ∀ {x k : Nat}, x ≤ 2 ^ k → k < 8000 → x < 2 ^ 8000 := fun h hk => lt_pow h hk
  refine ⟨fun j => ?_, (added2 f g r q).1, fun x hx => ?_, fun x hx => ?_⟩
  · match j with
    | 0 => exact ⟨lt s0.1 (by decide), lt s0.2 (by decide)⟩
    | 1 => exact ⟨lt s1.1 (by decide), lt s1.2 (by decide)⟩
    | j + 2 =>
      rw [List.take_of_length_le (by show 2 ≤ j + 2; omega)]
      exact ⟨lt (k := 140) s2.1 (by decide), lt (k := 140) s2.2 (by decide)⟩
  · rcases List.mem_cons.mp hx with hx | hx
    · rw [hx]; exact lt (k := 2) hf (by decide)
    · rw [List.mem_singleton.mp hx]; exact lt (k := 2) hg (by decide)
  · rcases List.mem_cons.mp hx with hx | hx
    · rw [hx]; exact ⟨lt (Nat.le_trans n1 a) (by decide), lt (k := 3) (Nat.le_trans d1 (by decide)) (by decide)⟩
    · rw [List.mem_singleton.mp hx]; exact ⟨lt (Nat.le_trans n2 b) (by decide), lt (k := 3) (Nat.le_trans d2 (by decide)) (by decide)⟩
/-- sums on the way: they span what the form spans -/
structure Mid (n k : Nat) (form rows : List Sm) : Prop where
  wide : ∀ s ∈ rows, s.1.length = n
  part : ∀ s ∈ rows, ∀ x ∈ s.1, x.natAbs ≤ 1000
  due : ∀ s ∈ rows, Due6 k s.2
  sub : ∀ s ∈ rows, SpS form (vecS s)
  sup : ∀ s ∈ form, SpS rows (vecS s)
theorem Mid.mono {n k l : Nat} {form rows : List Sm} (h : Mid n k form rows) (hl : k ≤ l) : Mid n l form rows := ⟨h.wide, h.part, fun s m => (h.due s m).mono hl, h.sub, h.sup⟩
theorem times_len {s u : Sm} {f g : Int} {n : Nat} (h1 : s.1.length = n) (h2 : u.1.length = n) : (timesP s u f g).length = n := by
  unfold timesP
  rw [List.length_zipWith]
  omega
theorem times_in {n k : Nat} {form rows : List Sm} (h : Mid n k form rows) {s u : Sm} (hs : s ∈ rows) (hu : u ∈ rows) (f g : Int) : SpS form (vecS (timesP s u f g, timesD s u f g)) :=
  (((h.sub s hs).smul (f : Rat)).comb (g : Rat) (h.sub u hu)).cast fun x => (times_vec s u f g (by rw [h.wide s hs, h.wide u hu]) x).symm
theorem Mid.set {n k : Nat} {form rows : List Sm} (h : Mid n k form rows) {i j : Nat} {s u : Sm} (hi : rows[i]? = some s) (hj : rows[j]? = some u) {f g : Int} (hf : f ≠ 0) (hb : f.natAbs + g.natAbs ≤ 2 ^ 3) (hg : i = j → g = 0) (hp : ∀ x ∈ timesP s u f g, x.natAbs ≤ 1000) :
    Mid n (k + 3) form (rows.set i (timesP s u f g, timesD s u f g)) := by
  have ms := List.mem_of_getElem? hi
  have mu := List.mem_of_getElem? hj
  have hin := (List.getElem?_eq_some_iff.mp hi).1
  have new : ∀ t ∈ rows.set i (timesP s u f g, timesD s u f g), t ∈ rows ∨ t = (timesP s u f g, timesD s u f g) := fun t ht => List.mem_or_eq_of_mem_set ht
  have fr := i_ne hf
  have mem : (timesP s u f g, timesD s u f g) ∈ rows.set i (timesP s u f g, timesD s u f g) := List.mem_of_getElem? (List.getElem?_set_self hin)
  have tv := times_vec s u f g (by rw [h.wide s ms, h.wide u mu])
  refine ⟨fun t ht => ?_, fun t ht => ?_, fun t ht => ?_, fun t ht => ?_, fun t ht => (h.sup t ht).trans fun r hr => ?_⟩
  · rcases new t ht with q | q
    · exact h.wide t q
    · rw [q]; exact times_len (h.wide s ms) (h.wide u mu)
  · rcases new t ht with q | q
    · exact h.part t q
    · rw [q]; exact hp
  · rcases new t ht with q | q
    · exact (h.due t q).mono (by omega)
    · rw [q]; exact due6_times (h.due s ms) (h.due u mu) hb
  · rcases new t ht with q | q
    · exact h.sub t q
    · rw [q]; exact times_in h ms mu f g
  · obtain ⟨m, hm, e⟩ := List.getElem_of_mem hr
    by_cases im : m = i
    · have ers : r = s := by
        subst im
        rw [List.getElem?_eq_getElem hin] at hi
        rw [← e]
        exact Option.some.inj hi
      subst ers
      by_cases ij : i = j
      · have g0 := hg ij
        exact ((SpS.of mem).smul (1 / (f : Rat))).cast fun x => by rw [tv, g0, i0]; grind
      · have mu' : u ∈ rows.set i (timesP r u f g, timesD r u f g) := List.mem_of_getElem? (i := j) (by rw [List.getElem?_set_ne ij]; exact hj)
        exact (((SpS.of mem).smul (1 / (f : Rat))).comb (-((g : Rat) / (f : Rat))) (SpS.of mu')).cast fun x => by rw [tv]; grind
    · exact .of (List.mem_of_getElem? (i := m) (by rw [List.getElem?_set_ne (fun z => im z.symm), List.getElem?_eq_getElem hm, e]))
theorem Mid.app {n k : Nat} {form rows : List Sm} (h : Mid n k form rows) {s u : Sm} (hs : s ∈ rows) (hu : u ∈ rows) {f g : Int} (hb : f.natAbs + g.natAbs ≤ 2 ^ 1) (hp : ∀ x ∈ timesP s u f g, x.natAbs ≤ 1000) :
    Mid n (k + 1) form (rows ++ [(timesP s u f g, timesD s u f g)]) := by
  have new : ∀ t ∈ rows ++ [(timesP s u f g, timesD s u f g)], t ∈ rows ∨ t = (timesP s u f g, timesD s u f g) := fun t ht => by
    rcases List.mem_append.mp ht with q | q
    · exact .inl q
    · exact .inr (List.mem_singleton.mp q)
  refine ⟨fun t ht => ?_, fun t ht => ?_, fun t ht => ?_, fun t ht => ?_, fun t ht => (h.sup t ht).trans fun r hr => .of (List.mem_append_left _ hr)⟩
  · rcases new t ht with q | q
    · exact h.wide t q
    · rw [q]; exact times_len (h.wide s hs) (h.wide u hu)
  · rcases new t ht with q | q
    · exact h.part t q
    · rw [q]; exact hp
  · rcases new t ht with q | q
    · exact (h.due t q).mono (by omega)
    · rw [q]; exact due6_times (h.due s hs) (h.due u hu) hb
  · rcases new t ht with q | q
    · exact h.sub t q
    · rw [q]; exact times_in h hs hu f g
theorem Mid.perm {n k : Nat} {form rows told : List Sm} (h : Mid n k form rows) (hm : ∀ s, s ∈ told ↔ s ∈ rows) : Mid n k form told :=
  ⟨fun s m => h.wide s ((hm s).mp m), fun s m => h.part s ((hm s).mp m), fun s m => h.due s ((hm s).mp m), fun s m => h.sub s ((hm s).mp m), fun s m => (h.sup s m).trans fun r hr => .of ((hm r).mpr hr)⟩
theorem Mid.bk {n : Nat} {form rows : List Sm} (h : Mid n 60 form rows) (hl : rows.length ≤ 8) : Bk n rows := ⟨hl, h.wide, h.part, h.due⟩
end La
set_option Elab.async false
set_option linter.all false
set_option maxRecDepth 100000
set_option maxHeartbeats 1000000
set_option exponentiation.threshold 20000
/-! La: what the law looks at, plainly. -/
namespace La
open PySem PySem.Spec PyProof.Rows L2 Pf K82
section
variable {n : Nat} {form one other rows : List Sm}
theorem Mid.snd {k : Nat} (h : Mid n k form rows) (r : Rnf n form) : Snd n rows := .of r h.sub
theorem use_form (h2 : 2 ≤ n) (h4 : n ≤ 11) (r : Rnf n form) (h : Mid n 60 form rows) (hl : rows.length ≤ 8) : FormOk n 3000 rows ∧ formP n rows = form :=
  ⟨form_ok (h.bk hl) h2 h4 (h.snd r), formP_eq h.wide r h.sub h.sup⟩
theorem use_alike (h2 : 2 ≤ n) (h4 : n ≤ 11) (r : Rnf n form) (h : Mid n 60 form one) (hl : one.length ≤ 8) (h' : Mid n 60 form other) (hl' : other.length ≤ 8) : AlikeOk n 3000 one other ∧ alikeB n one other = true :=
  ⟨alike_ok (h.bk hl) (h'.bk hl') h2 h4 (h.snd r) (h'.snd r), (alike_iff h.wide h'.wide (h.snd r) (h'.snd r)).mpr ⟨fun s m => (h'.sub s m).trans h.sup, fun s m => (h.sub s m).trans h'.sup⟩⟩
theorem use_join (h : Mid n 60 form one) (h' : Mid n 60 form other) : Mid n 60 form (one ++ other) := by
  have or : ∀ {p : Sm → Prop}, (∀ s ∈ one, p s) → (∀ s ∈ other, p s) → ∀ s ∈ one ++ other, p s := fun a b s m => (List.mem_append.mp m).elim (a s) (b s)
  exact ⟨or h.wide h'.wide, or h.part h'.part, or h.due h'.due, or h.sub h'.sub, fun s m => (h.sup s m).trans fun t q => .of (List.mem_append_left _ q)⟩
/-! ### a further figure -/
def extS (s : Sm) : Sm := (s.1 ++ [0], s.2)
def extV (n : Nat) (v : Vec) : Vec := fun x => if x < n then v x else if x = n + 1 then v n else 0
theorem Spn.map {S S' : Vec → Prop} {T : Vec → Vec} (t0 : ∀ x, T (fun _ => 0) x = 0) (ta : ∀ (v w : Vec) (c : Rat) (x : Nat), T (fun i => v i + c * w i) x = T v x + c * T w x) (h : ∀ w, S w → Spn S' (T w)) {v : Vec} (hv : Spn S v) : Spn S' (T v) := by
  induction hv with
  | zero => exact Spn.zero.cast fun x => (t0 x).symm
  | step c _ hw ih => exact (ih.comb c (h _ hw)).cast fun x => (ta _ _ c x).symm
theorem ext_part {p : List Int} {x : Nat} (hx : x < p.length) : (p ++ [0]).getD x 0 = p.getD x 0 := by
  rw [List.getD_eq_getElem?_getD, List.getElem?_append_left hx, List.getD_eq_getElem?_getD]
theorem ext_vec {s : Sm} (h : s.1.length = n) (x : Nat) : vecS (extS s) x = extV n (vecS s) x := by
  have hl : (extS s).1.length = n + 1 := by show (s.1 ++ [0]).length = n + 1; rw [List.length_append, h]; rfl
  unfold extV
  by_cases h1 : x < n
  · rw [if_pos h1, vecS_part (by omega), vecS_part (by omega)]
    show (((s.1 ++ [0]).getD x 0 : Int) : Rat) = _
    rw [ext_part (by omega)]
  · rw [if_neg h1]
    by_cases h2 : x = n + 1
    · have e1 := vecS_due (s := extS s)
      rw [hl] at e1
      have e2 := vecS_due (s := s)
      rw [h] at e2
      rw [if_pos h2, h2, e1, e2]
      rfl
    · rw [if_neg h2]
      by_cases h3 : x = n
      · subst h3
        rw [vecS_part (by omega)]
        show (((s.1 ++ [0]).getD x 0 : Int) : Rat) = 0
        rw [List.getD_eq_getElem?_getD, List.getElem?_append_right (by omega), h, Nat.sub_self]
        rfl
      · exact vecS_far (by omega)
theorem ext_span {v : Vec} (hw : ∀ s ∈ rows, s.1.length = n) (hv : SpS rows v) : SpS (rows.map extS) (extV n v) := by
  refine Spn.map (T := extV n) (fun x => ?_) (fun v w c x => ?_) (fun w ⟨s, m, e⟩ => ?_) hv
  · unfold extV
    split
    · rfl
    · split <;> rfl
  · unfold extV
    split
    · rfl
    · split
      · rfl
      · grind
  · subst e
    have : extV n (vecS s) = vecS (extS s) := funext fun x => (ext_vec (hw s m) x).symm
    rw [this]
    exact .of ⟨_, List.mem_map_of_mem m, rfl⟩
theorem gcd_app (p : List Int) : gcdAll (p ++ [0]) = gcdAll p := by
  unfold gcdAll
  rw [List.foldl_append]
  show Nat.gcd _ (Int.natAbs 0) = _
  rw [Int.natAbs_zero, Nat.gcd_zero_right]
theorem use_wide {k : Nat} (r : Rnf n form) (hf : ∀ s ∈ form, s.1.length = n) (h : Mid n k form rows) : Rnf (n + 1) (form.map extS) ∧ Mid (n + 1) k (form.map extS) (rows.map extS) := by
  obtain ⟨L, e, p⟩ := r
  have hl : (form.map extS).length = form.length := List.length_map _
  have ev : ∀ {i}, i < form.length → ∀ x, atS (form.map extS) i x = extV n (atS form i) x := fun {i} hi x => by
    have e1 : form[i]? = some form[i] := List.getElem?_eq_getElem hi
    unfold atS
    rw [getD_at (l := form.map extS) (x := extS form[i]) (by rw [List.getElem?_map, e1]; rfl), getD_at e1]
    exact ext_vec (hf _ (List.getElem_mem hi)) x
  have el : ∀ {i}, i < form.length → ∀ {x}, x < n → atS (form.map extS) i x = atS form i x := fun {i} hi {x} hx => by
    rw [ev hi]
    unfold extV
    rw [if_pos hx]
  refine ⟨⟨L, ⟨fun i hi => by have := e.lt i (by omega); omega, fun i j ij hj => e.inc i j ij (by omega), fun i hi => ?_, fun i j hi hj ne => ?_, fun i c hi hc => ?_⟩, fun i s es => ?_⟩, ⟨fun s m => ?_, fun s m x hx => ?_, fun s m => ?_, fun s m => ?_, fun s m => ?_⟩⟩
  · rw [el (by omega) (e.lt i (by omega))]
    exact e.one i (by omega)
  · rw [el (by omega) (e.lt j (by omega))]
    exact e.off i j (by omega) (by omega) ne
  · have := e.lt i (by omega)
    rw [el (by omega) (by omega)]
    exact e.low i c (by omega) hc
  · obtain ⟨t, et, rfl⟩ := get_map es
    obtain ⟨p1, p2, p3⟩ := p i t et
    have hi := (List.getElem?_eq_some_iff.mp et).1
    have := e.lt i hi
    refine ⟨by show (t.1 ++ [0]).length = n + 1; rw [List.length_append, p1]; rfl, by show gcdAll (t.1 ++ [0]) = 1; rw [gcd_app, p2], ?_⟩
    show 0 < (t.1 ++ [0]).getD (L i) 0
    rw [ext_part (by omega)]
    exact p3
  · obtain ⟨t, mt, rfl⟩ := List.mem_map.mp m
    show (t.1 ++ [0]).length = n + 1
    rw [List.length_append, h.wide t mt]
    rfl
  · obtain ⟨t, mt, rfl⟩ := List.mem_map.mp m
    rcases List.mem_append.mp (show x ∈ t.1 ++ [0] from hx) with q | q
    · exact h.part t mt x q
    · rw [List.mem_singleton.mp q]; decide
  · obtain ⟨t, mt, rfl⟩ := List.mem_map.mp m
    exact h.due t mt
  · obtain ⟨t, mt, rfl⟩ := List.mem_map.mp m
    have : vecS (extS t) = extV n (vecS t) := funext fun x => ext_vec (h.wide t mt) x
    rw [this]
    exact ext_span hf (h.sub t mt)
  · obtain ⟨t, mt, rfl⟩ := List.mem_map.mp m
    have : vecS (extS t) = extV n (vecS t) := funext fun x => ext_vec (hf t mt) x
    rw [this]
    exact ext_span h.wide (h.sup t mt)
/-! ### the figures turned about -/
def turnV (n : Nat) (order : List Nat) (v : Vec) : Vec := fun x => if x < n then v (order.getD x 0) else if x = n then v n else 0
theorem turn_vec {order : List Nat} (ho : OrdOk n order) {s : Sm} (h : s.1.length = n) (x : Nat) : vecS (turnP order s.1, s.2) x = turnV n order (vecS s) x := by
  have hl : (turnP order s.1).length = n := by unfold turnP; rw [List.length_map, ho.len]
  unfold turnV
  by_cases h1 : x < n
  · have ox : order.getD x 0 < n := (ho.mem _).mp (by
      rw [List.getD_eq_getElem?_getD, List.getElem?_eq_getElem (by rw [ho.len]; exact h1)]
      exact List.getElem_mem _)
    rw [if_pos h1, vecS_part (show x < (turnP order s.1, s.2).1.length by show x < (turnP order s.1).length; omega), vecS_part (by omega)]
    show (((turnP order s.1).getD x 0 : Int) : Rat) = _
    unfold turnP
    rw [List.getD_eq_getElem?_getD, List.getElem?_map, List.getElem?_eq_getElem (by rw [ho.len]; exact h1), List.getD_eq_getElem?_getD (l := order), List.getElem?_eq_getElem (by rw [ho.len]; exact h1)]
    rfl
  · rw [if_neg h1]
    by_cases h2 : x = n
    · have e1 := vecS_due (s := (turnP order s.1, s.2))
      have e2 := vecS_due (s := s)
      rw [h] at e2
      have e3 : (turnP order s.1, s.2).1.length = n := hl
      rw [e3] at e1
      rw [if_pos h2, h2, e1, e2]
    · rw [if_neg h2]
      exact vecS_far (show (turnP order s.1).length < x by omega)
theorem turn0 (order : List Nat) (x : Nat) : turnV n order (fun _ => 0) x = 0 := by
  unfold turnV
  split
  · rfl
  · split <;> rfl
theorem turnA (order : List Nat) (v w : Vec) (c : Rat) (x : Nat) : turnV n order (fun i => v i + c * w i) x = turnV n order v x + c * turnV n order w x := by
  unfold turnV
  split
  · rfl
  · split
    · rfl
    · grind
theorem turn_rows {order : List Nat} (ho : OrdOk n order) (hw : ∀ s ∈ rows, s.1.length = n) {v : Vec} (hv : SpS rows v) : SpS (turnR order rows) (turnV n order v) := by
  refine Spn.map (T := turnV n order) (turn0 order) (turnA order) (fun w ⟨s, m, e⟩ => ?_) hv
  subst e
  have : turnV n order (vecS s) = vecS (turnP order s.1, s.2) := funext fun x => (turn_vec ho (hw s m) x).symm
  rw [this]
  exact .of ⟨_, List.mem_map_of_mem m, rfl⟩
/-- what the turned rows span comes of what the rows span -/
theorem turn_back {order : List Nat} (ho : OrdOk n order) (hw : ∀ s ∈ rows, s.1.length = n) {v : Vec} (hv : SpS (turnR order rows) v) : ∃ u, SpS rows u ∧ ∀ x, v x = turnV n order u x := by
  induction hv with
  | zero => exact ⟨fun _ => 0, .zero, fun x => (turn0 order x).symm⟩
  | @step v w c _ hw' ih =>
    obtain ⟨u, hu, e⟩ := ih
    obtain ⟨s, m, es⟩ := hw'
    obtain ⟨t, mt, rfl⟩ := List.mem_map.mp m
    refine ⟨fun x => u x + c * vecS t x, hu.comb c (.of ⟨t, mt, rfl⟩), fun x => ?_⟩
    rw [turnA, ← turn_vec ho (hw t mt), ← e, es]
theorem turn_find {order : List Nat} (ho : OrdOk n order) {y : Nat} (hy : y < n) : ∃ x, x < n ∧ order.getD x 0 = y := by
  obtain ⟨x, hx, e⟩ := List.getElem_of_mem ((ho.mem y).mpr hy)
  exact ⟨x, by rw [← ho.len]; exact hx, by rw [getD_at (List.getElem?_eq_getElem hx), e]⟩
theorem turn_snd {order : List Nat} (ho : OrdOk n order) (hw : ∀ s ∈ rows, s.1.length = n) (sd : Snd n rows) : Snd n (turnR order rows) := fun v hv h0 c => by
  obtain ⟨u, hu, e⟩ := turn_back ho hw hv
  have : ∀ x, x < n → u x = 0 := fun y hy => by
    obtain ⟨x, hx, ex⟩ := turn_find ho hy
    have := h0 x hx
    rw [e] at this
    unfold turnV at this
    rw [if_pos hx, ex] at this
    exact this
  have z := sd u hu this
  rw [e]
  unfold turnV
  split
  · exact z _
  · split
    · exact z _
    · rfl
theorem turn_bk {order : List Nat} (ho : OrdOk n order) (h : Bk n rows) : Bk n (turnR order rows) := by
  refine ⟨by unfold turnR; rw [List.length_map]; exact h.few, fun s m => ?_, fun s m x hx => ?_, fun s m => ?_⟩
  · obtain ⟨t, mt, rfl⟩ := List.mem_map.mp m
    show (turnP order t.1).length = n
    unfold turnP
    rw [List.length_map, ho.len]
  · obtain ⟨t, mt, rfl⟩ := List.mem_map.mp m
    obtain ⟨i, hi, e⟩ := List.mem_map.mp (show x ∈ order.map fun i => t.1.getD i 0 from hx)
    rw [← e]
    exact h.part t mt _ (getD_mem (by rw [h.wide t mt]; exact (ho.mem i).mp hi))
  · obtain ⟨t, mt, rfl⟩ := List.mem_map.mp m
    exact h.due t mt
theorem use_turn {order : List Nat} (ho : OrdOk n order) (h2 : 2 ≤ n) (h4 : n ≤ 11) (r : Rnf n form) (hf : ∀ s ∈ form, s.1.length = n) (h : Mid n 60 form rows) (hl : rows.length ≤ 8) :
    FormOk n 3000 (turnR order rows) ∧ formP n (turnR order rows) = formL n (turnR order rows) ∧ (formP n (turnR order rows)).length = form.length ∧ Bk n (turnR order rows) := by
  have bk := turn_bk ho (h.bk hl)
  have sd := turn_snd ho h.wide (h.snd r)
  refine ⟨form_ok bk h2 h4 sd, formL_eq bk.wide sd, ?_, bk⟩
  have fr := formP_ech bk.wide
  have fsub := formP_sub bk.wide
  have fsup := formP_sup bk.wide sd
  obtain ⟨L', e', _⟩ := fr
  obtain ⟨L, e, p⟩ := r
  -- where each lead of the form stands behind the turn
  have cl : ∀ i, ∃ x, i < form.length → x < n ∧ order.getD x 0 = L i := fun i => by
    by_cases hi : i < form.length
    · obtain ⟨x, a, b⟩ := turn_find ho (e.lt i hi)
      exact ⟨x, fun _ => ⟨a, b⟩⟩
    · exact ⟨0, fun q => absurd q hi⟩
  obtain ⟨C, hC⟩ := Classical.axiomOfChoice cl
  have tv : ∀ i j, i < form.length → turnV n order (atS form j) (C i) = atS form j (L i) := fun i j hi => by
    obtain ⟨a, b⟩ := hC i hi
    unfold turnV
    rw [if_pos a, b]
  refine (rank_eq (R := fun j => turnV n order (atS form j)) (L := C) (R' := atS (formP n (turnR order rows))) (L' := L') (fun i hi => ?_) (fun i j hi hj ne => ?_) e'.one e'.off (fun i hi => ?_) fun i hi => ?_).symm
  · rw [tv i i hi]
    exact e.one i hi
  · rw [tv j i hj]
    exact e.off i j hi hj ne
  · obtain ⟨s, _, ms, v⟩ := at_mem hi
    rw [v]
    obtain ⟨u, hu, eu⟩ := turn_back ho h.wide (fsub s ms)
    have hu' : Spn (Rows form.length (atS form)) u := spS_rows (hu.trans h.sub)
    refine (Spn.map (T := turnV n order) (turn0 order) (turnA order) (fun w ⟨j, hj, ej⟩ => ?_) hu').cast fun x => (eu x).symm
    rw [ej]
    exact .of ⟨j, hj, rfl⟩
  · obtain ⟨s, _, ms, v⟩ := at_mem hi
    rw [v]
    exact spS_rows ((turn_rows ho h.wide (h.sup s ms)).trans fsup)
/-! ### one sum less -/
theorem use_less (h2 : 2 ≤ n) (h4 : n ≤ 11) (r : Rnf n form) (h : Mid n 60 form one) (hl : one.length ≤ 8) (h' : Mid n 60 form other) (hl' : other.length ≤ 8) {less : List Sm} (hs : ∀ s ∈ less, s ∈ one) (hll : less.length ≤ 8) :
    Bk n less ∧ FormOk n 3000 less ∧ formP n less = formL n less ∧ AlikeOk n 3000 less other ∧ alikeB n less other = decide ((formL n less).length = form.length) := by
  have bk : Bk n less := ⟨hll, fun s m => h.wide s (hs s m), fun s m => h.part s (hs s m), fun s m => h.due s (hs s m)⟩
  have sub : ∀ s ∈ less, SpS form (vecS s) := fun s m => h.sub s (hs s m)
  have sd : Snd n less := .of r sub
  exact ⟨bk, form_ok bk h2 h4 sd, formL_eq bk.wide sd, alike_ok bk (h'.bk hl') h2 h4 sd (h'.snd r), alike_less bk.wide h'.wide r sub h'.sub h'.sup⟩
end
/-! ### how much data it is -/
theorem pln_ints : ∀ l : List Int, PlnAll (zD l) l.length
  | [] => .nil
  | x :: l => by
    show PlnAll (.int x :: zD l) (l.length + 1)
    rw [Nat.add_comm]
    exact .cons (.int x) (pln_ints l)
theorem pln_sum (s : Sm) : Pln (sumD s) (s.1.length + 5) := by
  have q : Pln (qD s.2) 3 := .tup (.cons (.int _) (.cons (.int _) .nil))
  have := Pln.tup (.cons (.tup (pln_ints s.1)) (.cons q .nil))
  exact this
theorem pln_all : ∀ {rows : List Sm} {n : Nat}, (∀ s ∈ rows, s.1.length = n) → PlnAll (rows.map sumD) (rows.length * (n + 5))
  | [], n, _ => by rw [List.length_nil, Nat.zero_mul]; exact .nil
  | s :: rows, n, h => by
    have a := pln_sum s
    rw [h s List.mem_cons_self] at a
    have := PlnAll.cons a (pln_all (rows := rows) fun t m => h t (List.mem_cons_of_mem _ m))
    rw [List.length_cons, Nat.succ_mul, Nat.add_comm]
    exact this
theorem pln_sums {rows : List Sm} {n : Nat} (h : ∀ s ∈ rows, s.1.length = n) (hl : rows.length ≤ 8) (hn : n ≤ 11) : ∃ k, Pln (sumsD rows) k ∧ k ≤ 200 := by
  refine ⟨_, .tup (pln_all h), ?_⟩
  have := Nat.mul_le_mul hl (show n + 5 ≤ 16 by omega)
  omega
theorem pln_strs : ∀ {ns : List Str}, (∀ x ∈ ns, SeqAt.shaped (.str x) = true) → PlnAll (ns.map PyData.str) ns.length
  | [], _ => .nil
  | x :: ns, h => by
    show PlnAll (.str x :: ns.map PyData.str) (ns.length + 1)
    rw [Nat.add_comm]
    exact .cons (.str x (h x List.mem_cons_self)) (pln_strs fun y m => h y (List.mem_cons_of_mem _ m))
theorem pln_book {ns : List Str} {rows : List Sm} {n : Nat} (hs : ∀ x ∈ ns, SeqAt.shaped (.str x) = true) (hns : ns.length ≤ 11) (h : ∀ s ∈ rows, s.1.length = n) (hl : rows.length ≤ 8) (hn : n ≤ 11) : ∃ k, Pln (bookD ns rows) k ∧ k ≤ 1000 := by
  obtain ⟨k, a, b⟩ := pln_sums h hl hn
  exact ⟨_, .tup (.cons (.tup (pln_strs hs)) (.cons a .nil)), by omega⟩
end La
set_option Elab.async false
set_option linter.all false
set_option maxRecDepth 100000
set_option maxHeartbeats 1000000
set_option exponentiation.threshold 20000
set_option pp.deepTerms false
set_option pp.maxSteps 500
namespace K82
open PySem PySem.Spec PyProof.Rows L2 Pf
local macro_rules | `(tactic| walk_at "go") => `(tactic| (conv => whnf) <;> repeat ((first | refine atE rfl ?_ | refine andR ?_ ?_); (conv => whnf)))
local macro_rules | `(tactic| walk_at "wh") => `(tactic| conv => whnf)
local macro_rules | `(tactic| walk_at "len") => `(tactic| (intro os Q h; (repeat (obtain ⟨_, h⟩ := h)); subst_vars; rfl))
local macro_rules | `(tactic| walk_at "keep") => `(tactic| (intro os Q h; (repeat (obtain ⟨_, h⟩ := h)); subst_vars; simp [keepOk]))
local macro_rules | `(tactic| walk_at "mono") => `(tactic| (intro os k k' f; repeat (first | exact f _ _ | refine Exists.imp fun _ => ?_ | refine And.imp_right ?_ | refine forall_imp fun _ => ?_)))
/-! the law's own mixing -/
def sp_law_mixed : FSp := fun os Q => ∃ (g : List Int) (c b : Int) (form : List Sm) (n : Nat), os = [.res (poolR g c b), .d (sumsD form), .d (.int 1000)] ∧ PoolOk g c b ∧ La.Mid n 7 form form ∧ form.length ≤ 8 ∧ 1 ≤ n ∧ n ≤ 11 ∧
  ∀ g' c' b' rows, PoolOk g' c' b' → La.Mid n 60 form rows → rows.length ≤ 8 → Q (.d (sumsD rows)) [.res (poolR g' c' b'), .d (sumsD form), .d (.int 1000)]
theorem mono_law_mixed : sp_law_mixed.Mono := fun os k k' f ⟨g, c, b, form, n, a1, a2, a3, a4, a5, a6, h⟩ => ⟨g, c, b, form, n, a1, a2, a3, a4, a5, a6, fun g' c' b' o h1 h2 h3 => f _ _ (h g' c' b' o h1 h2 h3)⟩
/-! ### _law_mixed -/
abbrev s_law_mixed : Stmt := topS 73
abbrev n_law_mixed : List Str := ["cask", "form", "most", "rows", "turn", "at", "other", "row", "part", "told"]
theorem sc_law_mixed : FnScope n_law_mixed ["cask", "form", "most"] (defScope s_law_mixed) := ⟨rfl, rfl, rfl, by decide +kernel, rfl, by decide +kernel, by decide +kernel⟩
def r_law_mixed : RS := (rSeq (rSet 3 (rCB fList (rACons (rN 1) rANil)))
  (rSeq (rFor (rRng1 (rD (rOp dMul (rP (rC (.int 2))) (rP (rD (rCB fLen (rACons (rN 3) rANil))))))) (rGn 4) (rSeq (rSet 5 (rCall sp_law_tap (rACons (rN 0) (rACons (rP (rD (rCB fLen (rACons (rN 3) rANil)))) rANil))))
  (rSeq (rSet 6 (rCall sp_law_tap (rACons (rN 0) (rACons (rP (rD (rCB fLen (rACons (rN 3) rANil)))) rANil))))
  (rSeq (rSet 7 (rCall sp_law_times (rACons (rP (rD (rOp dIx (rN 3) (rN 5)))) (rACons (rP (rD (rOp dIx (rP (rTup (rCons (rC (.int 1)) (rCons (rNeg (rC (.int 1))) (rCons (rC (.int 2)) (rCons (rNeg (rC (.int 3))) rNil)))))) (rP (rD (rCall sp_law_tap (rACons (rN 0) (rACons (rP (rC (.int 4))) rANil)))))))) (rACons (rP (rD (rOp dIx (rN 3) (rN 6)))) (rACons (rP (rD (rOp dMul (rP (rD (rOp dIx (rP (rTup (rCons (rC (.int 1)) (rCons (rNeg (rC (.int 1))) (rCons (rC (.int 2)) (rCons (rC (.int 0)) rNil)))))) (rP (rD (rCall sp_law_tap (rACons (rN 0) (rACons (rP (rC (.int 4))) rANil)))))))) (rP (rD (rCB fInt (rACons (rP (rTV (rCmp (dEq true) (rN 5) (rN 6)))) rANil))))))) rANil))))))
  (rIfS (rCmp bLe (rP (rD (rCB fMaxL (rACons (rP (rD (rLc (rFs (rD (rOp dIx (rN 7) (rP (rC (.int 0)))))) (rGn 8) rYes (rD (rCB fAbs (rACons (rN 8) rANil))) [8]))) rANil)))) (rN 2)) (rSetIx 3 (rVar 7) (rVar 5)) rNext)))))
  (rSeq (rFor (rRng1 (rD (rCall sp_law_tap (rACons (rN 0) (rACons (rP (rC (.int 3))) rANil))))) (rGn 4) (rIfS (rChain bLt bLt (rP (rC (.int 0))) (rP (rD (rCB fLen (rACons (rN 3) rANil)))) (rP (rC (.int 8)))) (rSeq (rSet 7 (rCall sp_law_times (rACons (rP (rD (rOp dIx (rN 3) (rP (rD (rCall sp_law_tap (rACons (rN 0) (rACons (rP (rD (rCB fLen (rACons (rN 3) rANil)))) rANil)))))))) (rACons (rP (rC (.int 1))) (rACons (rP (rD (rOp dIx (rN 3) (rP (rD (rCall sp_law_tap (rACons (rN 0) (rACons (rP (rD (rCB fLen (rACons (rN 3) rANil)))) rANil)))))))) (rACons (rP (rD (rOp bSub (rP (rD (rCall sp_law_tap (rACons (rN 0) (rACons (rP (rC (.int 3))) rANil))))) (rP (rC (.int 1)))))) rANil))))))
  (rIfS (rChain bLt bLe (rP (rC (.int 0))) (rP (rD (rCB fMaxL (rACons (rP (rD (rLc (rFs (rD (rOp dIx (rN 7) (rP (rC (.int 0)))))) (rGn 8) rYes (rD (rCB fAbs (rACons (rN 8) rANil))) [8]))) rANil)))) (rN 2)) (rDrop (rApp 3 (rVar 7))) rNext)) rNext))
  (rSeq (rSet 9 (rLst rNil))
  (rSeq (rFor (rFs (rVar 3)) (rGn 7) (rDrop (rIns 9 (rD (rCall sp_law_tap (rACons (rN 0) (rACons (rP (rD (rOp dAdd (rP (rD (rCB fLen (rACons (rN 9) rANil)))) (rP (rC (.int 1)))))) rANil)))) (rVar 7))))
  (rRet (rCB fTuple (rACons (rN 9) rANil))))))))
theorem q_law_mixed {P : Program} {w : World} {K : Fg} {mg : Str → Option Value} {base : Heap} {f : Addr} (g : Gs K mg) (h_law_tap : Has P w K mg base "_law_tap" ["pool", "many"] 1 sp_law_tap) (h_law_times : Has P w K mg base "_law_times" ["row", "factor", "other", "more"] 4 sp_law_times) (cdv : Value) (A : Around) (outer : List PySem.Env) (s : Shared) (H : Hp) (E : XK) (hr : Room 4 (A.deeper (envOfC "_law_mixed" (defScope s_law_mixed) s.heap.objs.size f cdv))) :
    QSs (cxOf CX0 P w K mg base n_law_mixed "_law_mixed" (defScope s_law_mixed) f cdv A outer s H E).nox [0] (defBody s_law_mixed) r_law_mixed :=
  (qss_cons (qs_set 3 sc_law_mixed.nd (qe_list rfl g.list (qa_cons (qp_var 1) qa_nil)))
  (qss_cons (qs_for PassesOwn.never rfl (qf_range1 g.range (QE.v (qe_mul (qv_int).p ((QE.v (qe_len g.len (qa_cons (qp_var 3) qa_nil)))).p))) (qg_name 4 sc_law_mixed.nd) (qss_cons (qs_set 5 sc_law_mixed.nd (qe_call h_law_tap (hr.mono (by decide)) (qa_cons (qp_var 0) (qa_cons ((QE.v (qe_len g.len (qa_cons (qp_var 3) qa_nil)))).p qa_nil))))
  (qss_cons (qs_set 6 sc_law_mixed.nd (qe_call h_law_tap (hr.mono (by decide)) (qa_cons (qp_var 0) (qa_cons ((QE.v (qe_len g.len (qa_cons (qp_var 3) qa_nil)))).p qa_nil))))
  (qss_cons (qs_set 7 sc_law_mixed.nd (qe_call h_law_times (hr.mono (by decide)) (qa_cons ((qv_ix (qp_var 3) (qp_var 5))).p (qa_cons ((qv_ix ((qv_tup (ql_cons qv_int (ql_cons (qv_neg qv_int) (ql_cons qv_int (ql_cons (qv_neg qv_int) ql_nil)))))).p ((QE.v (qe_call h_law_tap (hr.mono (by decide)) (qa_cons (qp_var 0) (qa_cons (qv_int).p qa_nil))))).p)).p (qa_cons ((qv_ix (qp_var 3) (qp_var 6))).p (qa_cons ((QE.v (qe_mul ((qv_ix ((qv_tup (ql_cons qv_int (ql_cons (qv_neg qv_int) (ql_cons qv_int (ql_cons qv_int ql_nil)))))).p ((QE.v (qe_call h_law_tap (hr.mono (by decide)) (qa_cons (qp_var 0) (qa_cons (qv_int).p qa_nil))))).p)).p ((QE.v (qe_int g.int (qa_cons ((qv_ne hr.units (qp_var 5) (qp_var 6))).p qa_nil)))).p))).p qa_nil))))))
  (qss_one (qs_if (qt_le ((QE.v (qe_max rfl g.max (qa_cons ((QE.v (qe_lc (own := [("part", 8)]) rfl sc_law_mixed.nd (qf_seq (qv_ix (qp_var 7) (qv_int).p)) (blkOk_by (by rfl)) (fun _ _ _ _ _ => (qg_name 8 sc_law_mixed.nd)) (fun _ _ _ _ _ => qts_nil) (fun _ _ _ _ _ => (QE.v (qe_abs g.abs (qa_cons (qp_var 8) qa_nil))))))).p qa_nil)))).p (qp_var 2)) (qss_one (qs_setIx 3 (qv_var 7) (qv_var 5))) qss_nil))))))
  (qss_cons (qs_for PassesOwn.never rfl (qf_range1 g.range (QE.v (qe_call h_law_tap (hr.mono (by decide)) (qa_cons (qp_var 0) (qa_cons (qv_int).p qa_nil))))) (qg_name 4 sc_law_mixed.nd) (qss_one (qs_if (qt_chain op_lt dOrd_ok dOrd_mono op_lt dOrd_ok dOrd_mono (qv_int).p ((QE.v (qe_len g.len (qa_cons (qp_var 3) qa_nil)))).p (qv_int).p) (qss_cons (qs_set 7 sc_law_mixed.nd (qe_call h_law_times (hr.mono (by decide)) (qa_cons ((qv_ix (qp_var 3) ((QE.v (qe_call h_law_tap (hr.mono (by decide)) (qa_cons (qp_var 0) (qa_cons ((QE.v (qe_len g.len (qa_cons (qp_var 3) qa_nil)))).p qa_nil))))).p)).p (qa_cons (qv_int).p (qa_cons ((qv_ix (qp_var 3) ((QE.v (qe_call h_law_tap (hr.mono (by decide)) (qa_cons (qp_var 0) (qa_cons ((QE.v (qe_len g.len (qa_cons (qp_var 3) qa_nil)))).p qa_nil))))).p)).p (qa_cons ((QE.v (qe_sub ((QE.v (qe_call h_law_tap (hr.mono (by decide)) (qa_cons (qp_var 0) (qa_cons (qv_int).p qa_nil))))).p (qv_int).p))).p qa_nil))))))
  (qss_one (qs_if (qt_chain op_lt dOrd_ok dOrd_mono op_le dOrd_ok dOrd_mono (qv_int).p ((QE.v (qe_max rfl g.max (qa_cons ((QE.v (qe_lc (own := [("part", 8)]) rfl sc_law_mixed.nd (qf_seq (qv_ix (qp_var 7) (qv_int).p)) (blkOk_by (by rfl)) (fun _ _ _ _ _ => (qg_name 8 sc_law_mixed.nd)) (fun _ _ _ _ _ => qts_nil) (fun _ _ _ _ _ => (QE.v (qe_abs g.abs (qa_cons (qp_var 8) qa_nil))))))).p qa_nil)))).p (qp_var 2)) (qss_one (qs_expr (qe_append 3 (qv_var 7)))) qss_nil))) qss_nil)))
  (qss_cons (qs_set 9 sc_law_mixed.nd (qe_lst ql_nil))
  (qss_cons (qs_for PassesOwn.never rfl (qf_seq (qv_var 3)) (qg_name 7 sc_law_mixed.nd) (qss_one (qs_expr (qe_insert 9 (QE.v (qe_call h_law_tap (hr.mono (by decide)) (qa_cons (qp_var 0) (qa_cons ((QE.v (qe_add ((QE.v (qe_len g.len (qa_cons (qp_var 9) qa_nil)))).p (qv_int).p))).p qa_nil)))) (qv_var 7)))))
  (qss_one (qs_ret (qe_tuple g.tuple (qa_cons (qp_var 9) qa_nil)))))))))

theorem pick_row {rows : List Sm} {t : Int} (h0 : 0 ≤ t) (ht : t < rows.length) : ∃ s, rows[t.toNat]? = some s ∧ s ∈ rows ∧ atI (rows.map sumD) t = some (sumD s) := by
  obtain ⟨s, hs, hm⟩ := getAt (show t.toNat < rows.length by omega)
  exact ⟨s, hs, hm, atI_int h0 (by rw [List.getElem?_map, hs]; rfl)⟩
theorem pick4 {a b c d t : Int} (h0 : 0 ≤ t) (ht : t < 4) : ∃ f : Int, (f = a ∨ f = b ∨ f = c ∨ f = d) ∧ atI [PyData.int a, .int b, .int c, .int d] t = some (.int f) := by
  obtain ⟨m, rfl⟩ := Int.eq_ofNat_of_zero_le h0
  match m, ht with
  | 0, _ => exact ⟨a, .inl rfl, rfl⟩
  | 1, _ => exact ⟨b, .inr (.inl rfl), rfl⟩
  | 2, _ => exact ⟨c, .inr (.inr (.inl rfl)), rfl⟩
  | 3, _ => exact ⟨d, .inr (.inr (.inr rfl)), rfl⟩
  | m + 4, h => omega
theorem ixN_int {n : Nat} {t : Int} (h0 : 0 ≤ t) (ht : t < n) : ixN n t = some t.toNat := by
  obtain ⟨m, rfl⟩ := Int.eq_ofNat_of_zero_le h0
  exact ixN_nat (by omega)
theorem small_of {x : Int} (h : x.natAbs ≤ 1000) : x.natAbs < 2 ^ 8000 := Nat.lt_of_le_of_lt h (Nat.lt_of_lt_of_le (by decide : 1000 < 2 ^ 10) (La.pow_mono (by decide)))
theorem m_law_mixed (os : List O) (Q : O → List O → Prop) (h : sp_law_mixed os Q) : Ends r_law_mixed n_law_mixed os Q := by
  obtain ⟨g, c, b, form, n, rfl, ok, mid, hf, n1, n11, q⟩ := h
  have lf : (form.map sumD).length = form.length := List.length_map _
  walk_at "go"
  · refine ⟨fun j e => ∃ g c b rows o4 o5 o6 o7, e = [some (.res (poolR g c b)), some (.d (sumsD form)), some (.d (.int 1000)), some (.own (rows.map sumD)), o4, o5, o6, o7, none, none] ∧ PoolOk g c b ∧ La.Mid n (7 + 3 * j) form rows ∧ rows.length = form.length, ⟨g, c, b, form, none, none, none, none, rfl, ok, mid, rfl⟩, ?_, ?_⟩
    · rintro j x e hx ⟨g, c, b, rows, o4, o5, o6, o7, rfl, ok, iv, hl⟩
      obtain ⟨ex, hj⟩ := rngD_at hx
      subst ex
      rw [lf] at hj
      have lr : (rows.map sumD).length = rows.length := List.length_map _
      have iv60 : La.Mid n 60 form rows := iv.mono (by omega)
      walk_at "go"
      refine ⟨g, c, b, _, rfl, ok, by rw [lr]; omega, fun g c b t1 ok h1 ht1 => ?_⟩
      rw [lr] at ht1
      have ht1 : t1 < rows.length := by omega
      walk_at "go"
      refine ⟨g, c, b, _, rfl, ok, by rw [lr]; omega, fun g c b t2 ok h2 ht2 => ?_⟩
      rw [lr] at ht2
      have ht2 : t2 < rows.length := by omega
      obtain ⟨s, es, ms, as⟩ := pick_row h1 ht1
      obtain ⟨u, eu, mu, au⟩ := pick_row h2 ht2
      walk_at "go"
      refine ⟨_, as, ?_⟩
      walk_at "go"
      refine ⟨g, c, b, _, rfl, ok, by omega, fun g c b t3 ok h3 ht3 => ?_⟩
      obtain ⟨f, hf3, a3⟩ := pick4 (a := 1) (b := -1) (c := 2) (d := -3) h3 (by omega : t3 < 4)
      walk_at "go"
      refine ⟨_, a3, ?_⟩
      walk_at "go"
      refine ⟨_, au, ?_⟩
      walk_at "go"
      refine ⟨g, c, b, _, rfl, ok, by omega, fun g c b t4 ok h4 ht4 => ?_⟩
      obtain ⟨w, hw4, a4⟩ := pick4 (a := 1) (b := -1) (c := 2) (d := 0) h4 (by omega : t4 < 4)
      walk_at "go"
      refine ⟨_, a4, ?_⟩
      walk_at "go"
      have hg : ∃ gg : Int, (w * if (if true = true then !decide (t1 = t2) else decide (t1 = t2)) = true then 1 else 0) = gg ∧ (t1 = t2 → gg = 0) ∧ gg.natAbs ≤ 2 := by
        refine ⟨_, rfl, fun e => ?_, ?_⟩
        · simp [e]
        · by_cases e : t1 = t2
          · simp [e]
          · simp [e]
            omega
      obtain ⟨gg, eg, g1, g2⟩ := hg
      rw [eg]
      have lsu : s.1.length = u.1.length := by rw [iv.wide s ms, iv.wide u mu]
      have lt := La.times_len (f := f) (g := gg) (iv.wide s ms) (iv.wide u mu)
      refine ⟨s, u, f, gg, rfl, lsu, by rw [iv.wide s ms]; omega, fun x hx => small_of (iv.part s ms x hx), fun x hx => small_of (iv.part u mu x hx), La.addL_ok (by omega) (by omega) (iv60.due s ms) (iv60.due u mu), ?_⟩
      walk_at "go"
      refine lc_mapE (fun e => e = [some (.res (poolR g c b)), some (.d (sumsD form)), some (.d (.int 1000)), some (.own (rows.map sumD)), some (.d (.int (0 + (j : Nat)))), some (.d (.int t1)), some (.d (.int t2)), some (.d (sumD (timesP s u f gg, timesD s u f gg))), none, none]) (ys := zD ((timesP s u f gg).map fun i => if i < 0 then -i else i)) rfl (by unfold zD; simp) (by unfold zD; rw [List.length_map]; show (timesP s u f gg).length ≤ 1000; omega) ?_ ?_
      · rintro i x y k'' _ rfl hx2 hy2 hk2
        obtain ⟨z, hz, rfl⟩ := get_map hx2
        have hy3 : y = .int (if z < 0 then -z else z) := by
          unfold zD at hy2
          rw [List.getElem?_map, List.getElem?_map, hz] at hy2
          exact (Option.some.inj hy2).symm
        subst hy3
        walk_at "go"
        · exact hk2 _ rfl
        · trivial
      rintro e rfl
      walk_at "go"
      refine ⟨_, intsOf_map _, by rw [List.length_map, lt]; omega, fun m hm hmax => ?_⟩
      walk_at "wh"
      refine decI (fun h => ?_) (fun h => ?_)
      · have h : m ≤ 1000 := of_decide_eq_true h
        have small : ∀ x ∈ timesP s u f gg, x.natAbs ≤ 1000 := fun x hx => by
          have := hmax _ (List.mem_map_of_mem hx)
          dsimp only at this
          split at this <;> omega
        walk_at "wh"
        refine ⟨_, ixN_int h1 (by rw [lr]; exact ht1), ?_⟩
        walk_at "wh"
        refine ⟨g, c, b, rows.set t1.toNat (timesP s u f gg, timesD s u f gg), _, _, _, _, by rw [List.map_set]; rfl, ok, ?_, by rw [List.length_set]; exact hl⟩
        have := iv.set es eu (f := f) (g := gg) (by omega) (by omega) (fun e => g1 (by omega)) small
        exact this.mono (by omega)
      · walk_at "wh"
        exact ⟨g, c, b, rows, _, _, _, _, rfl, ok, iv.mono (by omega), hl⟩
      · exact mul_fit (k := 2) (l := 2) (by omega) (by by_cases e : t1 = t2 <;> simp [e]) (by decide) (by decide)
      · exact (by decide : 4 ≤ sizeLine)
      · exact (by decide : 4 ≤ sizeLine)
    · rintro e ⟨g, c, b, rows, o4, o5, o6, o7, rfl, ok, iv, hl⟩
      rw [show (rngD 0 (2 * ((form.map sumD).length : Nat) : Int)).length = 2 * form.length by rw [rngD_len, lf]; omega] at iv
      have iv : La.Mid n 55 form rows := iv.mono (by omega)
      walk_at "go"
      refine ⟨g, c, b, _, rfl, ok, by omega, fun g c b tt ok htt0 htt => ?_⟩
      have htt : tt < 3 := by omega
      walk_at "go"
      · refine ⟨fun j e => ∃ g c b rows o4 o5 o6 o7, e = [some (.res (poolR g c b)), some (.d (sumsD form)), some (.d (.int 1000)), some (.own (rows.map sumD)), o4, o5, o6, o7, none, none] ∧ PoolOk g c b ∧ La.Mid n (55 + j) form rows ∧ rows.length ≤ 8, ⟨g, c, b, rows, _, _, _, _, rfl, ok, iv, by omega⟩, ?_, ?_⟩
        · rintro j x e hx ⟨g, c, b, rows, o4, o5, o6, o7, rfl, ok, iv, hl⟩
          obtain ⟨ex, hj⟩ := rngD_at hx
          subst ex
          have lr : (rows.map sumD).length = rows.length := List.length_map _
          have iv60 : La.Mid n 60 form rows := iv.mono (by omega)
          have skip : ∀ o4 o5 o6 o7, ∃ g' c' b' rows' p4 p5 p6 p7, [some (O.res (poolR g c b)), some (.d (sumsD form)), some (.d (.int 1000)), some (.own (rows.map sumD)), o4, o5, o6, o7, none, none] = [some (.res (poolR g' c' b')), some (.d (sumsD form)), some (.d (.int 1000)), some (.own (rows'.map sumD)), p4, p5, p6, p7, none, none] ∧ PoolOk g' c' b' ∧ La.Mid n (55 + (j + 1)) form rows' ∧ rows'.length ≤ 8 :=
            fun o4 o5 o6 o7 => ⟨g, c, b, rows, o4, o5, o6, o7, rfl, ok, iv.mono (by omega), hl⟩
          walk_at "wh"
          refine decI (fun h => ?_) (fun h => ?_)
          · have hpos : (0 : Int) < ((rows.map sumD).length : Nat) := of_decide_eq_true h
            walk_at "wh"
            refine decI (fun h => ?_) (fun h => ?_)
            · have h8 : (((rows.map sumD).length : Nat) : Int) < 8 := of_decide_eq_true h
              rw [lr] at hpos h8
              walk_at "go"
              refine ⟨g, c, b, _, rfl, ok, by rw [lr]; omega, fun g c b t1 ok h1 ht1 => ?_⟩
              rw [lr] at ht1
              have ht1 : t1 < rows.length := by omega
              obtain ⟨s, es, ms, as⟩ := pick_row h1 ht1
              walk_at "go"
              refine ⟨_, as, ?_⟩
              walk_at "go"
              refine ⟨g, c, b, _, rfl, ok, by rw [lr]; omega, fun g c b t2 ok h2 ht2 => ?_⟩
              rw [lr] at ht2
              have ht2 : t2 < rows.length := by omega
              obtain ⟨u, eu, mu, au⟩ := pick_row h2 ht2
              walk_at "go"
              refine ⟨_, au, ?_⟩
              walk_at "go"
              refine ⟨g, c, b, _, rfl, ok, by omega, fun g c b t3 ok h3 ht3 => ?_⟩
              have ht3 : t3 < 3 := by omega
              walk_at "go"
              have lsu : s.1.length = u.1.length := by rw [iv.wide s ms, iv.wide u mu]
              have lt := La.times_len (f := 1) (g := t3 - 1) (iv.wide s ms) (iv.wide u mu)
              refine ⟨s, u, 1, t3 - 1, rfl, lsu, by rw [iv.wide s ms]; omega, fun x hx => small_of (iv.part s ms x hx), fun x hx => small_of (iv.part u mu x hx), La.addL_ok (by omega) (by omega) (iv60.due s ms) (iv60.due u mu), ?_⟩
              generalize hgg : t3 - 1 = gg at *
              have skip : ∀ o4 o5 o6 o7, ∃ g' c' b' rows' p4 p5 p6 p7, [some (O.res (poolR g c b)), some (.d (sumsD form)), some (.d (.int 1000)), some (.own (rows.map sumD)), o4, o5, o6, o7, none, none] = [some (.res (poolR g' c' b')), some (.d (sumsD form)), some (.d (.int 1000)), some (.own (rows'.map sumD)), p4, p5, p6, p7, none, none] ∧ PoolOk g' c' b' ∧ La.Mid n (55 + (j + 1)) form rows' ∧ rows'.length ≤ 8 :=
                fun o4 o5 o6 o7 => ⟨g, c, b, rows, o4, o5, o6, o7, rfl, ok, iv.mono (by omega), hl⟩
              walk_at "go"
              refine lc_mapE (fun e => e = [some (.res (poolR g c b)), some (.d (sumsD form)), some (.d (.int 1000)), some (.own (rows.map sumD)), some (.d (.int (0 + (j : Nat)))), o5, o6, some (.d (sumD (timesP s u 1 gg, timesD s u 1 gg))), none, none]) (ys := zD ((timesP s u 1 gg).map fun i => if i < 0 then -i else i)) rfl (by unfold zD; simp) (by unfold zD; rw [List.length_map]; show (timesP s u 1 gg).length ≤ 1000; omega) ?_ ?_
              · rintro i x y k'' _ rfl hx2 hy2 hk2
                obtain ⟨z, hz, rfl⟩ := get_map hx2
                have hy3 : y = .int (if z < 0 then -z else z) := by
                  unfold zD at hy2
                  rw [List.getElem?_map, List.getElem?_map, hz] at hy2
                  exact (Option.some.inj hy2).symm
                subst hy3
                walk_at "go"
                · exact hk2 _ rfl
                · trivial
              rintro e rfl
              walk_at "go"
              refine ⟨_, intsOf_map _, by rw [List.length_map, lt]; omega, fun m hm hmax => ?_⟩
              walk_at "wh"
              refine decI (fun h => ?_) (fun h => ?_)
              · walk_at "wh"
                refine decI (fun h => ?_) (fun h => ?_)
                · have h : m ≤ 1000 := of_decide_eq_true h
                  have small : ∀ x ∈ timesP s u 1 gg, x.natAbs ≤ 1000 := fun x hx => by
                    have := hmax _ (List.mem_map_of_mem hx)
                    dsimp only at this
                    split at this <;> omega
                  walk_at "go"
                  · refine ⟨g, c, b, rows ++ [(timesP s u 1 gg, timesD s u 1 gg)], _, _, _, _, by rw [List.map_append]; rfl, ok, ?_, by rw [List.length_append, List.length_singleton]; omega⟩
                    exact (iv.app ms mu (f := 1) (g := gg) (by omega) small).mono (by omega)
                  · rw [lr]
                    exact Pf.small64 (by omega)
                · walk_at "wh"
                  exact skip _ _ _ _
              · walk_at "wh"
                exact skip _ _ _ _
            · walk_at "wh"
              exact skip _ _ _ _
          · walk_at "wh"
            exact skip _ _ _ _
        · rintro e ⟨g, c, b, rows, o4, o5, o6, o7, rfl, ok, iv, hl⟩
          rw [show (rngD 0 tt).length = tt.toNat by rw [rngD_len]; omega] at iv
          have iv : La.Mid n 60 form rows := iv.mono (by omega)
          walk_at "go"
          · refine ⟨fun j e => ∃ g c b told o4 o5 o6 o7, e = [some (.res (poolR g c b)), some (.d (sumsD form)), some (.d (.int 1000)), some (.d (.list (rows.map sumD))), o4, o5, o6, o7, none, some (.own (told.map sumD))] ∧ PoolOk g c b ∧ told.length = j ∧ ∀ s, s ∈ told ↔ s ∈ rows.take j, ⟨g, c, b, [], _, _, _, _, rfl, ok, rfl, by simp⟩, ?_, ?_⟩
            · rintro j x e hx ⟨g, c, b, told, o4, o5, o6, o7, rfl, ok, hlt, hmem⟩
              obtain ⟨s, hs, rfl⟩ := get_map hx
              have hj := (List.getElem?_eq_some_iff.mp hs).1
              have lt : (told.map sumD).length = told.length := List.length_map _
              walk_at "go"
              refine ⟨g, c, b, _, rfl, ok, by rw [lt]; omega, fun g c b t1 ok h1 ht1 => ?_⟩
              rw [lt] at ht1
              have ht1 : t1 < told.length + 1 := by omega
              walk_at "go"
              · refine ⟨g, c, b, told.take t1.toNat ++ [s] ++ told.drop t1.toNat, _, _, _, _, by rw [List.map_append, List.map_append, List.map_take, List.map_drop]; rfl, ok, ?_, fun r => ?_⟩
                · rw [List.length_append, List.length_append, List.length_take, List.length_drop, List.length_singleton]
                  omega
                · have e1 : r ∈ told ↔ r ∈ told.take t1.toNat ∨ r ∈ told.drop t1.toNat := by
                    rw [← List.mem_append, List.take_append_drop]
                  rw [List.take_add_one, hs, List.mem_append, List.mem_append, List.mem_append, ← hmem r, e1, List.mem_singleton]
                  show _ ↔ _ ∨ r ∈ [s]
                  rw [List.mem_singleton]
                  constructor
                  · rintro ((h | h) | h)
                    · exact .inl (.inl h)
                    · exact .inr h
                    · exact .inl (.inr h)
                  · rintro ((h | h) | h)
                    · exact .inl (.inl h)
                    · exact .inr h
                    · exact .inl (.inr h)
              · omega
              · exact h1
              · rw [lt]
                exact Pf.small64 (by omega)
            · rintro e ⟨g, c, b, told, o4, o5, o6, o7, rfl, ok, hlt, hmem⟩
              rw [List.length_map] at hlt hmem
              rw [List.take_length] at hmem
              walk_at "go"
              exact q g c b told ok (iv.perm hmem) (by omega)
          · exact Nat.zero_le _
      · omega
      · omega
  all_goals first
    | (rw [lf]; omega)
    | (rw [lf]; exact mul_fit (k := 2) (l := 4) (by decide) (by omega) (by decide) (by decide))
theorem f_law_mixed {P : Program} {w : World} {K : Fg} {mg : Str → Option Value} {base : Heap} {f : Addr} {fd : FuncData} (g : Gs K mg) (h_law_tap : Has P w K mg base "_law_tap" ["pool", "many"] 1 sp_law_tap) (h_law_times : Has P w K mg base "_law_times" ["row", "factor", "other", "more"] 4 sp_law_times) (F : Fun K "_law_mixed" "_law_mixed" s_law_mixed f fd) : FnOk P w K mg base CX0 5 f fd ["cask", "form", "most"] (SpOf K sp_law_mixed) :=
  fn_ok F sc_law_mixed [0] (fun cdv A outer s H E hr => q_law_mixed g h_law_tap h_law_times cdv A outer s H E hr) (by walk_at "len") (by walk_at "keep") m_law_mixed

end K82
set_option Elab.async false
set_option linter.all false
set_option maxRecDepth 100000
set_option maxHeartbeats 1000000
set_option exponentiation.threshold 20000
set_option pp.deepTerms false
set_option pp.maxSteps 500
namespace K82
open PySem PySem.Spec PyProof.Rows L2 Pf
local macro_rules | `(tactic| walk_at "go") => `(tactic| (conv => whnf) <;> repeat ((first | refine atE rfl ?_ | refine andR ?_ ?_); (conv => whnf)))
local macro_rules | `(tactic| walk_at "wh") => `(tactic| conv => whnf)
local macro_rules | `(tactic| walk_at "len") => `(tactic| (intro os Q h; (repeat (obtain ⟨_, h⟩ := h)); subst_vars; rfl))
local macro_rules | `(tactic| walk_at "keep") => `(tactic| (intro os Q h; (repeat (obtain ⟨_, h⟩ := h)); subst_vars; simp [keepOk]))
local macro_rules | `(tactic| walk_at "mono") => `(tactic| (intro os k k' f; repeat (first | exact f _ _ | refine Exists.imp fun _ => ?_ | refine And.imp_right ?_ | refine forall_imp fun _ => ?_)))
/-! the form that is drawn -/
structure RowOk (n : Nat) (ls : List Nat) (i : Nat) (p : List Int) : Prop where
  len : p.length = n
  gcd : gcdAll p = 1
  pos : 0 < p.getD (ls.getD i 0) 0
  low : ∀ x, x < ls.getD i 0 → p.getD x 0 = 0
  off : ∀ k, k < ls.length → k ≠ i → p.getD (ls.getD k 0) 0 = 0
  part : ∀ x ∈ p, x.natAbs ≤ 1000
structure DrawnOk (n : Nat) (form : List Sm) : Prop where
  rnf : La.Rnf n form
  mid : La.Mid n 7 form form
  few : form.length ≤ 8
def sp_law_drawn : FSp := fun os Q => ∃ (g : List Int) (c b : Int) (n most least : Nat), os = [.res (poolR g c b), .d (.int n), .d (.int most), .d (.int least)] ∧ PoolOk g c b ∧ 2 ≤ n ∧ n ≤ 10 ∧ 1 ≤ most ∧ most ≤ 40 ∧ least ≤ 8 ∧
  ∀ g' c' b' form, PoolOk g' c' b' → DrawnOk n form → Q (.own (form.map sumD)) [.res (poolR g' c' b'), .d (.int n), .d (.int most), .d (.int least)]
theorem mono_law_drawn : sp_law_drawn.Mono := fun os k k' f ⟨g, c, b, n, most, least, a1, a2, a3, a4, a5, a6, a7, h⟩ => ⟨g, c, b, n, most, least, a1, a2, a3, a4, a5, a6, a7, fun g' c' b' o h1 h2 => f _ _ (h g' c' b' o h1 h2)⟩
/-- the leads on the way -/
structure LdsOk (n : Nat) (ls : List Nat) : Prop where
  nd : ls.Nodup
  lt : ∀ x ∈ ls, x < n
/-- a line on the way -/
structure LnOk (n : Nat) (ls : List Nat) (lead : Nat) (p : List Int) : Prop where
  len : p.length = n
  pos : 0 < p.getD lead 0
  low : ∀ x, x < lead → p.getD x 0 = 0
  off : ∀ l ∈ ls, l ≠ lead → p.getD l 0 = 0
  part : ∀ x, (p.getD x 0).natAbs ≤ 40
def dI2 (p : List Int × Int) : D := .tuple [.tuple (zD p.1), .int p.2]
/-! ### _law_drawn -/
abbrev s_law_drawn : Stmt := topS 71
abbrev n_law_drawn : List Str := ["cask", "many", "most", "least", "leads", "at", "form", "lead", "line", "parts", "due"]
theorem sc_law_drawn : FnScope n_law_drawn ["cask", "many", "most", "least"] (defScope s_law_drawn) := ⟨rfl, rfl, rfl, by decide +kernel, rfl, by decide +kernel, by decide +kernel⟩
def r_law_drawn : RS := (rSeq (rSet 4 (rSl (rP (rD (rLc (rRng1 (rVar 1)) (rGn 5) (rCmp bGt (rP (rD (rCall sp_law_tap (rACons (rN 0) (rACons (rP (rC (.int 3))) rANil))))) (rP (rC (.int 0)))) (rVar 5) [5]))) rNoI (rSoI (rC (.int 8)))))
  (rSeq (rFor (rRng1 (rVar 1)) (rGn 5) (rIfS (rAnd (rCmp bLt (rP (rD (rCB fLen (rACons (rN 4) rANil)))) (rN 3)) (rCmp (dIn true) (rN 5) (rN 4))) (rDrop (rApp 4 (rVar 5))) rNext))
  (rSeq (rSet 4 (rCB fSorted (rACons (rN 4) rANil)))
  (rSeq (rIfS (rCmp (dEq false) (rP (rD (rCB fLen (rACons (rN 4) rANil)))) (rN 1)) (rDrop (rPopI 4 (rD (rCall sp_law_tap (rACons (rN 0) (rACons (rN 1) rANil)))))) rNext)
  (rSeq (rSet 6 (rLst rNil))
  (rSeq (rFor (rFs (rVar 4)) (rGn 7) (rSeq (rSet 8 (rRepL (rLst (rCons (rC (.int 0)) rNil)) (rVar 1)))
  (rSeq (rSetIx 8 (rD (rOp dAdd (rP (rC (.int 1))) (rP (rD (rCall sp_law_tap (rACons (rN 0) (rACons (rN 2) rANil))))))) (rVar 7))
  (rSeq (rFor (rRng2 (rD (rOp dAdd (rN 7) (rP (rC (.int 1))))) (rVar 1)) (rGn 5) (rIfS (rAnd (rCmp (dIn true) (rN 5) (rN 4)) (rCmp bGt (rP (rD (rCall sp_law_tap (rACons (rN 0) (rACons (rP (rC (.int 3))) rANil))))) (rP (rC (.int 0))))) (rSetIx 8 (rD (rOp bSub (rP (rD (rCall sp_law_tap (rACons (rN 0) (rACons (rP (rD (rOp dAdd (rP (rD (rOp dMul (rP (rC (.int 2))) (rN 2)))) (rP (rC (.int 1)))))) rANil))))) (rN 2))) (rVar 5)) rNext))
  (rDrop (rApp 6 (rTup (rCons (rD (rOp dIx (rP (rD (rCall sp_law_sum (rACons (rP (rD (rOp dAdd (rN 8) (rP (rD (rLst (rCons (rC (.int 0)) rNil))))))) rANil)))) (rP (rC (.int 0))))) (rCons (rD (rOp bSub (rP (rD (rCall sp_law_tap (rACons (rN 0) (rACons (rP (rC (.int 41))) rANil))))) (rP (rC (.int 20))))) rNil)))))))))
  (rRet (rLc (rFs (rVar 6)) (rGt 2 (rGcons (rGn 9) (rGcons (rGn 10) rGnil))) rYes (rTup (rCons (rVar 9) (rCons (rD (rCall sp_law_quotient (rACons (rN 10) (rACons (rP (rD (rOp dIx (rP (rTup (rCons (rC (.int 1)) (rCons (rC (.int 1)) (rCons (rC (.int 2)) (rCons (rC (.int 3)) rNil)))))) (rP (rD (rCall sp_law_tap (rACons (rN 0) (rACons (rP (rC (.int 4))) rANil)))))))) rANil)))) rNil))) [9, 10]))))))))
theorem q_law_drawn {P : Program} {w : World} {K : Fg} {mg : Str → Option Value} {base : Heap} {f : Addr} (g : Gs K mg) (h_law_tap : Has P w K mg base "_law_tap" ["pool", "many"] 1 sp_law_tap) (h_law_quotient : Has P w K mg base "_law_quotient" ["top", "bottom"] 2 sp_law_quotient) (h_law_sum : Has P w K mg base "_law_sum" ["line"] 3 sp_law_sum) (cdv : Value) (A : Around) (outer : List PySem.Env) (s : Shared) (H : Hp) (E : XK) (hr : Room 3 (A.deeper (envOfC "_law_drawn" (defScope s_law_drawn) s.heap.objs.size f cdv))) :
    QSs (cxOf CX0 P w K mg base n_law_drawn "_law_drawn" (defScope s_law_drawn) f cdv A outer s H E).nox [0] (defBody s_law_drawn) r_law_drawn :=
  (qss_cons (qs_set 4 sc_law_drawn.nd (qe_slice ((QE.v (qe_lc (own := [("at", 5)]) rfl sc_law_drawn.nd (qf_range1 g.range (qv_var 1)) (blkOk_by (by rfl)) (fun _ _ _ _ _ => (qg_name 5 sc_law_drawn.nd)) (fun _ _ _ _ _ => (qts_one (qt_gt ((QE.v (qe_call h_law_tap (hr.mono (by decide)) (qa_cons (qp_var 0) (qa_cons (qv_int).p qa_nil))))).p (qv_int).p))) (fun _ _ _ _ _ => (qv_var 5))))).p qi_none (qi_some qv_int)))
  (qss_cons (qs_for PassesOwn.never rfl (qf_range1 g.range (qv_var 1)) (qg_name 5 sc_law_drawn.nd) (qss_one (qs_if (QW.t (qw_and (qt_lt ((QE.v (qe_len g.len (qa_cons (qp_var 4) qa_nil)))).p (qp_var 3)) (qw_and1 (qt_notin (qp_var 5) (qp_var 4))))) (qss_one (qs_expr (qe_append 4 (qv_var 5)))) qss_nil)))
  (qss_cons (qs_set 4 sc_law_drawn.nd (qe_sorted g.sorted (qa_cons (qp_var 4) qa_nil)))
  (qss_cons (qs_if (qt_eq hr.units ((QE.v (qe_len g.len (qa_cons (qp_var 4) qa_nil)))).p (qp_var 1)) (qss_one (qs_expr (qe_popI 4 (QE.v (qe_call h_law_tap (hr.mono (by decide)) (qa_cons (qp_var 0) (qa_cons (qp_var 1) qa_nil))))))) qss_nil)
  (qss_cons (qs_set 6 sc_law_drawn.nd (qe_lst ql_nil))
  (qss_cons (qs_for PassesOwn.never rfl (qf_seq (qv_var 4)) (qg_name 7 sc_law_drawn.nd) (qss_cons (qs_set 8 sc_law_drawn.nd (qe_repL (qe_lst (ql_cons qv_int ql_nil)) (qv_var 1)))
  (qss_cons (qs_setIx 8 (QE.v (qe_add (qv_int).p ((QE.v (qe_call h_law_tap (hr.mono (by decide)) (qa_cons (qp_var 0) (qa_cons (qp_var 2) qa_nil))))).p)) (qv_var 7))
  (qss_cons (qs_for PassesOwn.never rfl (qf_range2 g.range (QE.v (qe_add (qp_var 7) (qv_int).p)) (qv_var 1)) (qg_name 5 sc_law_drawn.nd) (qss_one (qs_if (QW.t (qw_and (qt_notin (qp_var 5) (qp_var 4)) (qw_and1 (qt_gt ((QE.v (qe_call h_law_tap (hr.mono (by decide)) (qa_cons (qp_var 0) (qa_cons (qv_int).p qa_nil))))).p (qv_int).p)))) (qss_one (qs_setIx 8 (QE.v (qe_sub ((QE.v (qe_call h_law_tap (hr.mono (by decide)) (qa_cons (qp_var 0) (qa_cons ((QE.v (qe_add ((QE.v (qe_mul (qv_int).p (qp_var 2)))).p (qv_int).p))).p qa_nil))))).p (qp_var 2))) (qv_var 5))) qss_nil)))
  (qss_one (qs_expr (qe_append 6 (qv_tup (ql_cons (qv_ix ((QE.v (qe_call h_law_sum (hr.mono (by decide)) (qa_cons ((QE.v (qe_add (qp_var 8) ((QE.v (qe_lst (ql_cons qv_int ql_nil)))).p))).p qa_nil)))).p (qv_int).p) (ql_cons (QE.v (qe_sub ((QE.v (qe_call h_law_tap (hr.mono (by decide)) (qa_cons (qp_var 0) (qa_cons (qv_int).p qa_nil))))).p (qv_int).p)) ql_nil))))))))))
  (qss_one (qs_ret (qe_lc (own := [("parts", 9), ("due", 10)]) rfl sc_law_drawn.nd (qf_seq (qv_var 6)) (blkOk_by (by rfl)) (fun _ _ _ _ _ => (qg_tup 2 rfl (qgs_cons (qg_name 9 sc_law_drawn.nd) (qgs_cons (qg_name 10 sc_law_drawn.nd) qgs_nil)))) (fun _ _ _ _ _ => qts_nil) (fun _ _ _ _ _ => (qv_tup (ql_cons (qv_var 9) (ql_cons (QE.v (qe_call h_law_quotient (hr.mono (by decide)) (qa_cons (qp_var 10) (qa_cons ((qv_ix ((qv_tup (ql_cons qv_int (ql_cons qv_int (ql_cons qv_int (ql_cons qv_int ql_nil)))))).p ((QE.v (qe_call h_law_tap (hr.mono (by decide)) (qa_cons (qp_var 0) (qa_cons (qv_int).p qa_nil))))).p)).p qa_nil)))) ql_nil)))))))))))))

theorem drawn_ok {n : Nat} {ls : List Nat} {G : List Sm} (lt : ∀ l ∈ ls, l < n) (inc : ls.Pairwise (· < ·)) (few : ls.length ≤ 8) (hG : G.length = ls.length) (rows : ∀ (i : Nat) (s : Sm), G[i]? = some s → RowOk n ls i s.1) (due : ∀ (i : Nat) (s : Sm), G[i]? = some s → La.Due6 7 s.2) : DrawnOk n G := by
  have lat : ∀ {i}, i < G.length → ls.getD i 0 < n := fun {i} hi => lt _ (by
    rw [List.getD_eq_getElem?_getD, List.getElem?_eq_getElem (show i < ls.length by omega)]
    exact List.getElem_mem _)
  have at' : ∀ {i}, i < G.length → ∃ s, G[i]? = some s ∧ La.atS G i = La.vecS s ∧ RowOk n ls i s.1 := fun {i} hi => by
    obtain ⟨s, e, _, v⟩ := La.at_mem hi
    exact ⟨s, e, v, rows i s e⟩
  have mem : ∀ {s}, s ∈ G → ∃ i, G[i]? = some s := fun {s} h => by
    obtain ⟨i, hi, e⟩ := List.getElem_of_mem h
    exact ⟨i, by rw [List.getElem?_eq_getElem hi, e]⟩
  refine ⟨⟨fun i => ls.getD i 0, ⟨fun i hi => lat hi, fun i j ij hj => ?_, fun i hi => ?_, fun i j hi hj ne => ?_, fun i x hi hx => ?_⟩, fun i s e => ⟨(rows i s e).len, (rows i s e).gcd, (rows i s e).pos⟩⟩, ⟨fun s h => ?_, fun s h x hx => ?_, fun s h => ?_, fun s h => .of h, fun s h => .of h⟩, by omega⟩
  · show ls.getD i 0 < ls.getD j 0
    rw [List.getD_eq_getElem?_getD, List.getD_eq_getElem?_getD, List.getElem?_eq_getElem (show i < ls.length by omega), List.getElem?_eq_getElem (show j < ls.length by omega)]
    exact List.pairwise_iff_getElem.mp inc i j (by omega) (by omega) ij
  · obtain ⟨s, e, v, ok⟩ := at' hi
    have := lat hi
    have := ok.pos
    rw [v, La.vecS_part (by rw [ok.len]; omega)]
    exact La.i_ne (by omega)
  · obtain ⟨s, e, v, ok⟩ := at' hi
    have := lat hj
    rw [v, La.vecS_part (by rw [ok.len]; omega), ok.off j (by omega) (fun z => ne z.symm)]
    rfl
  · obtain ⟨s, e, v, ok⟩ := at' hi
    have := lat hi
    rw [v, La.vecS_part (by rw [ok.len]; omega), ok.low x hx]
    rfl
  · obtain ⟨i, e⟩ := mem h
    exact (rows i s e).len
  · obtain ⟨i, e⟩ := mem h
    exact (rows i s e).part x hx
  · obtain ⟨i, e⟩ := mem h
    exact due i s e
theorem row_of {n : Nat} {ls : List Nat} {i : Nat} {p : List Int} (lt : ∀ l ∈ ls, l < n) (inc : ls.Pairwise (· < ·)) (hi : i < ls.length) (h : LnOk n ls (ls.getD i 0) p) : La.LeadI p (ls.getD i 0) ∧ RowOk n ls i (sumL p 0).1 := by
  have lead : La.LeadI p (ls.getD i 0) := ⟨by have := h.pos; omega, h.low⟩
  have nn := La.normed lead
  have gt : ∀ {k}, k < ls.length → ls.getD k 0 = ls[k]! := fun {k} hk => by
    rw [List.getD_eq_getElem?_getD, List.getElem?_eq_getElem hk, getElem!_pos ls k hk]
    rfl
  have z : ∀ x, p.getD x 0 = 0 → (sumL p 0).1.getD x 0 = 0 := fun x hx => by
    have e := nn.at' x
    rw [hx] at e
    rcases Int.mul_eq_zero.mp e.symm with q | q
    · exact absurd q nn.g0
    · exact q
  refine ⟨lead, ⟨by rw [← h.len]; exact nn.len, nn.gcd, nn.pos, fun x hx => z x (h.low x hx), fun k hk ne => z _ (h.off _ ?_ ?_), fun x hx => ?_⟩⟩
  · rw [List.getD_eq_getElem?_getD, List.getElem?_eq_getElem hk]
    exact List.getElem_mem hk
  · rw [List.getD_eq_getElem?_getD, List.getD_eq_getElem?_getD, List.getElem?_eq_getElem hk, List.getElem?_eq_getElem hi]
    show ls[k] ≠ ls[i]
    by_cases q : k < i
    · have := List.pairwise_iff_getElem.mp inc k i hk hi q
      omega
    · have := List.pairwise_iff_getElem.mp inc i k hi hk (by omega)
      omega
  · obtain ⟨m, hm, e⟩ := List.getElem_of_mem hx
    have e2 : (sumL p 0).1.getD m 0 = x := by rw [La.getD_at (List.getElem?_eq_getElem hm), e]
    have e3 : p.getD m 0 = sgnGcd p * (sumL p 0).1.getD m 0 := nn.at' m
    have h2 := h.part m
    rw [e3, e2, Int.natAbs_mul] at h2
    have h3 : 1 ≤ (sgnGcd p).natAbs := by have := nn.g0; omega
    have h4 : 1 * x.natAbs ≤ (sgnGcd p).natAbs * x.natAbs := Nat.mul_le_mul_right _ h3
    omega
theorem due_of {d : Int} {q : Int} (h : d.natAbs ≤ 20) (hq : q = 1 ∨ q = 1 ∨ q = 2 ∨ q = 3) : q ≠ 0 ∧ q.natAbs < 2 ^ 9000 ∧ La.Due6 7 (Rat.divInt d q) := by
  have l : ∀ {x : Nat}, x ≤ 3 → x < 2 ^ 9000 := fun hx => Nat.lt_of_le_of_lt hx (Nat.lt_of_lt_of_le (by decide : 3 < 2 ^ 2) (La.pow_mono (by decide)))
  have e : ∀ {q : Int} (u : Int), q ≠ 0 → q * u = 6 → Rat.divInt d q = ((d * u : Int) : Rat) / 6 := fun {q} u h0 hu => by
    rw [La.divInt_as, Rat.intCast_mul]
    have h1 := La.i_ne h0
    have h2 : (q : Rat) * (u : Rat) = 6 := by rw [← Rat.intCast_mul, hu]; rfl
    grind
  rcases hq with rfl | rfl | rfl | rfl
  · exact ⟨by decide, l (by decide), d * 6, e 6 (by decide) (by decide), by omega⟩
  · exact ⟨by decide, l (by decide), d * 6, e 6 (by decide) (by decide), by omega⟩
  · exact ⟨by decide, l (by decide), d * 3, e 3 (by decide) (by decide), by omega⟩
  · exact ⟨by decide, l (by decide), d * 2, e 2 (by decide) (by decide), by omega⟩
theorem lds_app {n x : Nat} {ls : List Nat} (h : LdsOk n ls) (hx : x < n) (hn : x ∉ ls) : LdsOk n (ls ++ [x]) := by
  refine ⟨?_, fun y hy => ?_⟩
  · rw [List.nodup_append]
    refine ⟨h.nd, by simp, fun a ha b hb e => ?_⟩
    rw [List.mem_singleton.mp hb] at e
    exact hn (e ▸ ha)
  · rcases List.mem_append.mp hy with hy | hy
    · exact h.lt y hy
    · rw [List.mem_singleton.mp hy]; exact hx
theorem lds_mono {n m : Nat} {ls : List Nat} (h : LdsOk n ls) (hm : n ≤ m) : LdsOk m ls := ⟨h.nd, fun x hx => Nat.lt_of_lt_of_le (h.lt x hx) hm⟩
theorem sorted_nat {ls : List Nat} {ns : List Int} (nd : ls.Nodup) (p : ns.Perm (ls.map fun n : Nat => (n : Int))) (s : ns.Pairwise (· ≤ ·)) : ∃ ls' : List Nat, ns = ls'.map (fun n : Nat => (n : Int)) ∧ ls'.Perm ls ∧ ls'.Pairwise (· < ·) := by
  have e : ns = (ns.map Int.toNat).map (fun n : Nat => (n : Int)) := by
    rw [List.map_map]
    have : ∀ x ∈ ns, ((fun n : Nat => (n : Int)) ∘ Int.toNat) x = id x := fun x hx => by
      obtain ⟨m, _, em⟩ := List.mem_map.mp (p.mem_iff.mp hx)
      show ((x.toNat : Nat) : Int) = x
      omega
    rw [List.map_congr_left this, List.map_id]
  have p2 : (ns.map Int.toNat).Perm ls := by
    have := p.map Int.toNat
    rw [List.map_map] at this
    have e3 : (Int.toNat ∘ fun n : Nat => (n : Int)) = id := by
      funext n
      show ((n : Int)).toNat = n
      omega
    rw [e3, List.map_id] at this
    exact this
  refine ⟨ns.map Int.toNat, e, p2, ?_⟩
  have nd2 : (ns.map Int.toNat).Nodup := p2.nodup_iff.mpr nd
  rw [e, List.pairwise_map] at s
  have s2 : (ns.map Int.toNat).Pairwise (fun a b => a ≤ b ∧ a ≠ b) := List.Pairwise.imp₂ (fun a b h1 h2 => ⟨by omega, h2⟩) s nd2
  exact s2.imp fun h => by omega
theorem ints_natD (ls : List Nat) : intsOf (natD ls) = some (ls.map fun n : Nat => (n : Int)) := by
  have e : natD ls = (ls.map fun n : Nat => (n : Int)).map PyData.int := by
    unfold natD
    rw [List.map_map]
    rfl
  rw [e]
  exact intsOf_map _
theorem natD_of (ls : List Nat) : (ls.map fun n : Nat => (n : Int)).map PyData.int = natD ls := by
  unfold natD
  rw [List.map_map]
  rfl
theorem rep1 (n : Nat) : (List.replicate (n : Int).toNat [PyData.int 0]).flatten = zD (List.replicate n 0) := by
  rw [Int.toNat_natCast, rep_flat]
  unfold zD
  rw [List.map_replicate]
theorem ln_start {n most lead t : Nat} {ls : List Nat} (hl : lead < n) (ht : t < most) (hm : most ≤ 40) : LnOk n ls lead ((List.replicate n (0 : Int)).set lead (1 + (t : Int))) := by
  have at' : ∀ x, ((List.replicate n (0 : Int)).set lead (1 + (t : Int))).getD x 0 = if x = lead then 1 + (t : Int) else 0 := fun x => by
    rw [List.getD_eq_getElem?_getD]
    by_cases e : x = lead
    · subst e
      rw [List.getElem?_set_self (by rw [List.length_replicate]; exact hl), if_pos rfl]
      rfl
    · rw [List.getElem?_set_ne (fun z => e z.symm), List.getElem?_replicate, if_neg e]
      split <;> rfl
  refine ⟨by rw [List.length_set, List.length_replicate], by rw [at', if_pos rfl]; omega, fun x hx => by rw [at', if_neg (by omega)], fun l _ ne => by rw [at', if_neg ne], fun x => by rw [at']; split <;> omega⟩
theorem ln_set {n lead a : Nat} {v : Int} {ls : List Nat} {p : List Int} (h : LnOk n ls lead p) (ha : lead < a) (hn : a ∉ ls) (hv : v.natAbs ≤ 40) : LnOk n ls lead (p.set a v) := by
  have at' : ∀ x, x ≠ a → (p.set a v).getD x 0 = p.getD x 0 := fun x e => by
    rw [List.getD_eq_getElem?_getD, List.getElem?_set_ne (fun z => e z.symm), List.getD_eq_getElem?_getD]
  refine ⟨by rw [List.length_set]; exact h.len, by rw [at' _ (by omega)]; exact h.pos, fun x hx => by rw [at' _ (by omega)]; exact h.low x hx, fun l hl ne => by rw [at' _ (fun z => hn (z ▸ hl))]; exact h.off l hl ne, fun x => ?_⟩
  by_cases e : x = a
  · subst e
    by_cases hx : x < p.length
    · rw [List.getD_eq_getElem?_getD, List.getElem?_set_self hx]
      exact hv
    · rw [La.getD_far (by rw [List.length_set]; omega)]
      decide
  · rw [at' x e]
    exact h.part x
theorem m_law_drawn (os : List O) (Q : O → List O → Prop) (h : sp_law_drawn os Q) : Ends r_law_drawn n_law_drawn os Q := by
  obtain ⟨g, c, b, n, most, least, rfl, ok, n2, n10, m1, m40, l8, q⟩ := h
  walk_at "go"
  · refine ⟨fun i acc e => ∃ g c b ls, e = [some (.res (poolR g c b)), some (.d (.int n)), some (.d (.int most)), some (.d (.int least)), none, none, none, none, none, none, none] ∧ PoolOk g c b ∧ acc = natD ls ∧ LdsOk i ls ∧ ls.length ≤ i, ⟨g, c, b, [], rfl, ok, rfl, ⟨by simp, by simp⟩, by simp⟩, ?_, ?_⟩
    · rintro i x acc e hx ⟨g, c, b, ls, rfl, ok, rfl, hls, hlen⟩
      obtain ⟨ex, hi⟩ := rngD_at hx
      have ez : (0 + (i : Nat) : Int) = ((i : Nat) : Int) := Int.zero_add _
      rw [ez] at ex
      subst ex
      walk_at "go"
      refine ⟨g, c, b, _, rfl, ok, by omega, fun g c b t ok h0 ht => ?_⟩
      walk_at "wh"
      refine decI (fun h => ?_) (fun h => ?_)
      · walk_at "wh"
        refine ⟨?_, g, c, b, ls ++ [i], rfl, ok, ?_, lds_app (lds_mono hls (by omega)) (by omega) (fun m => by have := hls.lt i m; omega), by rw [List.length_append, List.length_singleton]; omega⟩
        · show (natD ls).length < sizeLine
          rw [natD_len]
          exact Pf.small64 (by omega)
        · unfold natD
          rw [List.map_append]
          rfl
      · walk_at "wh"
        exact ⟨g, c, b, ls, rfl, ok, rfl, lds_mono hls (by omega), by omega⟩
    · rintro acc e ⟨g, c, b, ls, rfl, ok, rfl, hls, hlen⟩
      rw [show (rngD 0 (n : Int)).length = n by rw [rngD_len]; omega] at hls hlen
      have e8 : cut (natD ls) none (some (8 : Int)) = natD (ls.take 8) := by
        rw [show (8 : Int) = ((8 : Nat) : Int) from rfl, cut_take]
        unfold natD
        rw [List.map_take]
      have h8 : LdsOk n (ls.take 8) := ⟨hls.nd.sublist (List.take_sublist 8 ls), fun x hx => hls.lt x (List.mem_of_mem_take hx)⟩
      have h8l : (ls.take 8).length ≤ 8 := by rw [List.length_take]; omega
      generalize ls.take 8 = ls8 at *
      walk_at "go"
      rw [e8]
      walk_at "go"
      · refine ⟨fun j e => ∃ ls o5, e = [some (.res (poolR g c b)), some (.d (.int n)), some (.d (.int most)), some (.d (.int least)), some (.own (natD ls)), o5, none, none, none, none, none] ∧ LdsOk n ls ∧ ls.length ≤ 8, ⟨ls8, none, rfl, h8, h8l⟩, ?_, ?_⟩
        · rintro j x e hx ⟨ls, o5, rfl, hls, hlen⟩
          obtain ⟨ex, hj⟩ := rngD_at hx
          have ez : (0 + (j : Nat) : Int) = ((j : Nat) : Int) := Int.zero_add _
          rw [ez] at ex
          subst ex
          walk_at "wh"
          refine decI (fun h => ?_) (fun h => ?_)
          · have hl : ((natD ls).length : Int) < least := of_decide_eq_true h
            rw [natD_len] at hl
            walk_at "wh"
            refine ⟨rfl, flat_nat ls, ?_⟩
            rw [inD_nat]
            walk_at "wh"
            by_cases hm : j ∈ ls
            · rw [decide_eq_true hm]
              walk_at "wh"
              exact ⟨ls, _, rfl, hls, hlen⟩
            · rw [decide_eq_false hm]
              walk_at "wh"
              refine ⟨?_, ls ++ [j], some (.d (.int (j : Nat))), ?_, lds_app hls (by omega) hm, by rw [List.length_append, List.length_singleton]; omega⟩
              · show (natD ls).length < sizeLine
                rw [natD_len]
                exact Pf.small64 (by omega)
              · unfold natD
                rw [List.map_append]
                rfl
          · walk_at "wh"
            exact ⟨ls, _, rfl, hls, hlen⟩
        · rintro e ⟨ls, o5, rfl, hls, hlen⟩
          walk_at "wh"
          refine ⟨_, ints_natD ls, by rw [List.length_map]; omega, fun ns' hp hs => ?_⟩
          obtain ⟨ls', e', p', s'⟩ := sorted_nat hls.nd hp hs
          subst e'
          rw [natD_of]
          have lt' : ∀ x ∈ ls', x < n := fun x hx => hls.lt x (p'.mem_iff.mp hx)
          have len' : ls'.length ≤ 8 := by rw [p'.length_eq]; exact hlen
          walk_at "wh"
          refine decI (fun h => ?_) (fun h => ?_)
          · have hl : (((natD ls').length : Nat) : Int) = (n : Nat) := of_decide_eq_true h
            rw [natD_len] at hl
            walk_at "go"
            refine ⟨g, c, b, _, rfl, ok, by omega, fun g c b t ok h0 ht => ?_⟩
            have ht : t < ls'.length := by omega
            obtain ⟨v, hv, _⟩ := getAt (show t.toNat < ls'.length by omega)
            walk_at "wh"
            refine ⟨t.toNat, .int (v : Nat), by omega, by omega, by rw [natD_len]; exact seqIx h0 ht, by unfold natD; rw [List.getElem?_map, hv]; rfl, ?_⟩
            have ee : (natD ls').eraseIdx t.toNat = natD (ls'.eraseIdx t.toNat) := map_erase _ _ _
            rw [ee]
            have lt2 : ∀ x ∈ ls'.eraseIdx t.toNat, x < n := fun x hx => lt' x (List.mem_of_mem_eraseIdx hx)
            have len2 : (ls'.eraseIdx t.toNat).length ≤ 8 := by rw [List.length_eraseIdx]; split <;> omega
            have s2 : (ls'.eraseIdx t.toNat).Pairwise (· < ·) := s'.sublist (List.eraseIdx_sublist _ _)
            generalize ls'.eraseIdx t.toNat = lf at *
            walk_at "go"
            · refine ⟨fun i e => ∃ g c b F o5 o7 o8, e = [some (.res (poolR g c b)), some (.d (.int n)), some (.d (.int most)), some (.d (.int least)), some (.d (.list (natD lf))), o5, some (.own (F.map dI2)), o7, o8, none, none] ∧ PoolOk g c b ∧ F.length = i ∧ ∀ (k : Nat) (p : List Int × Int), F[k]? = some p → RowOk n lf k p.1 ∧ p.2.natAbs ≤ 20, ⟨g, c, b, [], _, _, _, rfl, ok, rfl, by simp⟩, ?_, ?_⟩
              · rintro i x e hx ⟨g, c, b, F, o5, o7, o8, rfl, ok, hF, hrow⟩
                obtain ⟨lead, hlead, rfl⟩ := get_map hx
                have hi := (List.getElem?_eq_some_iff.mp hlead).1
                have hlm := List.mem_of_getElem? hlead
                have hln := lt2 lead hlm
                have eld : lf.getD i 0 = lead := La.getD_at hlead
                walk_at "go"
                · rw [rep1]
                  refine ⟨g, c, b, _, rfl, ok, by omega, fun g c b t ok h0 ht => ?_⟩
                  have ht : t < most := by omega
                  obtain ⟨t, rfl⟩ := Int.eq_ofNat_of_zero_le h0
                  walk_at "go"
                  refine ⟨lead, ixN_nat (by unfold zD; rw [List.length_map, List.length_replicate]; exact hln), ?_⟩
                  have es : (zD (List.replicate n 0)).set lead (.int (1 + (t : Int))) = zD ((List.replicate n (0 : Int)).set lead (1 + (t : Int))) := by
                    unfold zD
                    rw [List.map_set]
                  rw [es]
                  have lk := ln_start (ls := lf) hln (show t < most by omega) m40
                  generalize (List.replicate n (0 : Int)).set lead (1 + (t : Int)) = line0 at *
                  walk_at "go"
                  · refine ⟨fun j e => ∃ g c b p o5, e = [some (.res (poolR g c b)), some (.d (.int n)), some (.d (.int most)), some (.d (.int least)), some (.d (.list (natD lf))), o5, some (.own (F.map dI2)), some (.d (.int (lead : Nat))), some (.own (zD p)), none, none] ∧ PoolOk g c b ∧ LnOk n lf lead p, ⟨g, c, b, line0, _, rfl, ok, lk⟩, ?_, ?_⟩
                    · rintro j x e hx ⟨g, c, b, p, o5, rfl, ok, lk⟩
                      obtain ⟨ex, hj⟩ := rngD_at hx
                      have ez : (((lead : Nat) : Int) + 1 + (j : Nat) : Int) = ((lead + 1 + j : Nat) : Int) := by omega
                      rw [ez] at ex
                      subst ex
                      have han : lead + 1 + j < n := by omega
                      have hal : lead < lead + 1 + j := by omega
                      generalize lead + 1 + j = a at *
                      walk_at "wh"
                      refine ⟨rfl, flat_nat lf, ?_⟩
                      rw [inD_nat]
                      by_cases hm : a ∈ lf
                      · rw [decide_eq_true hm]
                        walk_at "wh"
                        exact ⟨g, c, b, p, _, rfl, ok, lk⟩
                      · rw [decide_eq_false hm]
                        walk_at "go"
                        refine ⟨g, c, b, _, rfl, ok, by omega, fun g c b u ok hu0 hu => ?_⟩
                        walk_at "wh"
                        refine decI (fun h => ?_) (fun h => ?_)
                        · walk_at "go"
                          · refine ⟨g, c, b, _, rfl, ok, by omega, fun g c b w ok hw0 hw => ?_⟩
                            have hw : w < 2 * (most : Int) + 1 := by omega
                            walk_at "go"
                            refine ⟨a, ixN_nat (by unfold zD; rw [List.length_map, lk.len]; exact han), ?_⟩
                            refine ⟨g, c, b, p.set a (w - most), some (.d (.int (a : Nat))), ?_, ok, ln_set lk hal hm (by omega)⟩
                            unfold zD
                            rw [List.map_set]
                            rfl
                          · exact mul_fit (k := 2) (l := 7) (by decide) (by omega) (by decide) (by decide)
                        · walk_at "wh"
                          exact ⟨g, c, b, p, _, rfl, ok, lk⟩
                    · rintro e ⟨g, c, b, p, o5, rfl, ok, lk⟩
                      obtain ⟨li, ro⟩ := row_of (i := i) lt2 s2 hi (eld ▸ lk)
                      have lp := lk.len
                      have lzp : (zD p).length = n := by unfold zD; rw [List.length_map]; exact lp
                      walk_at "go"
                      · refine ⟨p, 0, _, rfl, by unfold zD; rw [List.map_append]; rfl, by omega, ⟨_, La.getD_mem li.mem, li.ne⟩, ?_, ?_⟩
                        · refine La.gcd_lt fun x => Nat.lt_of_le_of_lt (lk.part x) (Nat.lt_of_lt_of_le (by decide : 40 < 2 ^ 6) (La.pow_mono (by decide)))
                        walk_at "go"
                        refine ⟨g, c, b, _, rfl, ok, by omega, fun g c b w ok hw0 hw => ?_⟩
                        have hw : w < 41 := by omega
                        walk_at "go"
                        · refine ⟨g, c, b, F ++ [((sumL p 0).1, w - 20)], _, _, _, by rw [List.map_append]; rfl, ok, by rw [List.length_append, hF]; rfl, fun k q hk => ?_⟩
                          rcases La.snoc_get hk with ⟨_, hk⟩ | ⟨ek, hk⟩
                          · exact hrow k q hk
                          · rw [hk, ek, hF]
                            exact ⟨ro, by show (w - 20).natAbs ≤ 20; omega⟩
                        · rw [List.length_map]
                          exact Pf.small64 (by omega)
                        · exact (by decide : 2 ≤ sizeLine)
                      · rw [lzp]
                        exact Nat.le_of_lt (Pf.small64 (by show n + 1 ≤ 1000; omega))
                      · exact (by decide : 1 ≤ sizeLine)
                  all_goals omega
                · show 1 * n ≤ sizeLine
                  exact Nat.le_of_lt (Pf.small64 (by omega))
                · omega
                · omega
                · exact (by decide : 1 ≤ sizeLine)
              · rintro e ⟨g, c, b, F, o5, o7, o8, rfl, ok, hF, hrow⟩
                rw [natD_len] at hF
                walk_at "go"
                refine ⟨fun i acc e => ∃ g c b G, e = [some (.res (poolR g c b)), some (.d (.int n)), some (.d (.int most)), some (.d (.int least)), some (.d (.list (natD lf))), o5, some (.d (.list (F.map dI2))), o7, o8, none, none] ∧ PoolOk g c b ∧ acc = G.map sumD ∧ G.length = i ∧ ∀ (k : Nat) (s : Sm), G[k]? = some s → (∃ p, F[k]? = some p ∧ s.1 = p.1) ∧ La.Due6 7 s.2, ⟨g, c, b, [], rfl, ok, rfl, rfl, by simp⟩, ?_, ?_⟩
                · rintro i x acc e hx ⟨g, c, b, G, rfl, ok, rfl, hG, hgs⟩
                  obtain ⟨p, hp, rfl⟩ := get_map hx
                  have hiF := (List.getElem?_eq_some_iff.mp hp).1
                  obtain ⟨_, hd⟩ := hrow i p hp
                  walk_at "wh"
                  refine ⟨rfl, ?_⟩
                  walk_at "go"
                  refine ⟨g, c, b, _, rfl, ok, by omega, fun g c b u ok hu0 hu => ?_⟩
                  obtain ⟨f, hf, af⟩ := pick4 (a := 1) (b := 1) (c := 2) (d := 3) hu0 (by omega : u < 4)
                  obtain ⟨f0, f1, f2⟩ := due_of hd hf
                  walk_at "go"
                  refine ⟨_, af, ?_⟩
                  walk_at "wh"
                  refine ⟨p.2, f, rfl, f0, f1, ?_⟩
                  walk_at "go"
                  · refine ⟨g, c, b, G ++ [(p.1, Rat.divInt p.2 f)], rfl, ok, by rw [List.map_append]; rfl, by rw [List.length_append, hG]; rfl, fun k s hk => ?_⟩
                    rcases La.snoc_get hk with ⟨_, hk⟩ | ⟨ek, hk⟩
                    · exact hgs k s hk
                    · rw [hk, ek, hG]
                      exact ⟨⟨p, hp, rfl⟩, f2⟩
                  · rw [List.length_map]
                    exact Pf.small64 (by omega)
                  · exact (by decide : 2 ≤ sizeLine)
                  · exact (by decide : 4 ≤ sizeLine)
                · rintro acc e ⟨g, c, b, G, rfl, ok, rfl, hG, hgs⟩
                  rw [List.length_map] at hG
                  walk_at "wh"
                  refine q g c b G ok (drawn_ok lt2 s2 len2 (by omega) (fun k s hk => ?_) fun k s hk => (hgs k s hk).2)
                  obtain ⟨⟨p, hp, e⟩, _⟩ := hgs k s hk
                  rw [e]
                  exact (hrow k p hp).1
            · exact Nat.zero_le _
          · have lt2 := lt'
            have len2 := len'
            have s2 := s'
            generalize ls' = lf at *
            walk_at "go"
            · refine ⟨fun i e => ∃ g c b F o5 o7 o8, e = [some (.res (poolR g c b)), some (.d (.int n)), some (.d (.int most)), some (.d (.int least)), some (.d (.list (natD lf))), o5, some (.own (F.map dI2)), o7, o8, none, none] ∧ PoolOk g c b ∧ F.length = i ∧ ∀ (k : Nat) (p : List Int × Int), F[k]? = some p → RowOk n lf k p.1 ∧ p.2.natAbs ≤ 20, ⟨g, c, b, [], _, _, _, rfl, ok, rfl, by simp⟩, ?_, ?_⟩
              · rintro i x e hx ⟨g, c, b, F, o5, o7, o8, rfl, ok, hF, hrow⟩
                obtain ⟨lead, hlead, rfl⟩ := get_map hx
                have hi := (List.getElem?_eq_some_iff.mp hlead).1
                have hlm := List.mem_of_getElem? hlead
                have hln := lt2 lead hlm
                have eld : lf.getD i 0 = lead := La.getD_at hlead
                walk_at "go"
                · rw [rep1]
                  refine ⟨g, c, b, _, rfl, ok, by omega, fun g c b t ok h0 ht => ?_⟩
                  have ht : t < most := by omega
                  obtain ⟨t, rfl⟩ := Int.eq_ofNat_of_zero_le h0
                  walk_at "go"
                  refine ⟨lead, ixN_nat (by unfold zD; rw [List.length_map, List.length_replicate]; exact hln), ?_⟩
                  have es : (zD (List.replicate n 0)).set lead (.int (1 + (t : Int))) = zD ((List.replicate n (0 : Int)).set lead (1 + (t : Int))) := by
                    unfold zD
                    rw [List.map_set]
                  rw [es]
                  have lk := ln_start (ls := lf) hln (show t < most by omega) m40
                  generalize (List.replicate n (0 : Int)).set lead (1 + (t : Int)) = line0 at *
                  walk_at "go"
                  · refine ⟨fun j e => ∃ g c b p o5, e = [some (.res (poolR g c b)), some (.d (.int n)), some (.d (.int most)), some (.d (.int least)), some (.d (.list (natD lf))), o5, some (.own (F.map dI2)), some (.d (.int (lead : Nat))), some (.own (zD p)), none, none] ∧ PoolOk g c b ∧ LnOk n lf lead p, ⟨g, c, b, line0, _, rfl, ok, lk⟩, ?_, ?_⟩
                    · rintro j x e hx ⟨g, c, b, p, o5, rfl, ok, lk⟩
                      obtain ⟨ex, hj⟩ := rngD_at hx
                      have ez : (((lead : Nat) : Int) + 1 + (j : Nat) : Int) = ((lead + 1 + j : Nat) : Int) := by omega
                      rw [ez] at ex
                      subst ex
                      have han : lead + 1 + j < n := by omega
                      have hal : lead < lead + 1 + j := by omega
                      generalize lead + 1 + j = a at *
                      walk_at "wh"
                      refine ⟨rfl, flat_nat lf, ?_⟩
                      rw [inD_nat]
                      by_cases hm : a ∈ lf
                      · rw [decide_eq_true hm]
                        walk_at "wh"
                        exact ⟨g, c, b, p, _, rfl, ok, lk⟩
                      · rw [decide_eq_false hm]
                        walk_at "go"
                        refine ⟨g, c, b, _, rfl, ok, by omega, fun g c b u ok hu0 hu => ?_⟩
                        walk_at "wh"
                        refine decI (fun h => ?_) (fun h => ?_)
                        · walk_at "go"
                          · refine ⟨g, c, b, _, rfl, ok, by omega, fun g c b w ok hw0 hw => ?_⟩
                            have hw : w < 2 * (most : Int) + 1 := by omega
                            walk_at "go"
                            refine ⟨a, ixN_nat (by unfold zD; rw [List.length_map, lk.len]; exact han), ?_⟩
                            refine ⟨g, c, b, p.set a (w - most), some (.d (.int (a : Nat))), ?_, ok, ln_set lk hal hm (by omega)⟩
                            unfold zD
                            rw [List.map_set]
                            rfl
                          · exact mul_fit (k := 2) (l := 7) (by decide) (by omega) (by decide) (by decide)
                        · walk_at "wh"
                          exact ⟨g, c, b, p, _, rfl, ok, lk⟩
                    · rintro e ⟨g, c, b, p, o5, rfl, ok, lk⟩
                      obtain ⟨li, ro⟩ := row_of (i := i) lt2 s2 hi (eld ▸ lk)
                      have lp := lk.len
                      have lzp : (zD p).length = n := by unfold zD; rw [List.length_map]; exact lp
                      walk_at "go"
                      · refine ⟨p, 0, _, rfl, by unfold zD; rw [List.map_append]; rfl, by omega, ⟨_, La.getD_mem li.mem, li.ne⟩, ?_, ?_⟩
                        · refine La.gcd_lt fun x => Nat.lt_of_le_of_lt (lk.part x) (Nat.lt_of_lt_of_le (by decide : 40 < 2 ^ 6) (La.pow_mono (by decide)))
                        walk_at "go"
                        refine ⟨g, c, b, _, rfl, ok, by omega, fun g c b w ok hw0 hw => ?_⟩
                        have hw : w < 41 := by omega
                        walk_at "go"
                        · refine ⟨g, c, b, F ++ [((sumL p 0).1, w - 20)], _, _, _, by rw [List.map_append]; rfl, ok, by rw [List.length_append, hF]; rfl, fun k q hk => ?_⟩
                          rcases La.snoc_get hk with ⟨_, hk⟩ | ⟨ek, hk⟩
                          · exact hrow k q hk
                          · rw [hk, ek, hF]
                            exact ⟨ro, by show (w - 20).natAbs ≤ 20; omega⟩
                        · rw [List.length_map]
                          exact Pf.small64 (by omega)
                        · exact (by decide : 2 ≤ sizeLine)
                      · rw [lzp]
                        exact Nat.le_of_lt (Pf.small64 (by show n + 1 ≤ 1000; omega))
                      · exact (by decide : 1 ≤ sizeLine)
                  all_goals omega
                · show 1 * n ≤ sizeLine
                  exact Nat.le_of_lt (Pf.small64 (by omega))
                · omega
                · omega
                · exact (by decide : 1 ≤ sizeLine)
              · rintro e ⟨g, c, b, F, o5, o7, o8, rfl, ok, hF, hrow⟩
                rw [natD_len] at hF
                walk_at "go"
                refine ⟨fun i acc e => ∃ g c b G, e = [some (.res (poolR g c b)), some (.d (.int n)), some (.d (.int most)), some (.d (.int least)), some (.d (.list (natD lf))), o5, some (.d (.list (F.map dI2))), o7, o8, none, none] ∧ PoolOk g c b ∧ acc = G.map sumD ∧ G.length = i ∧ ∀ (k : Nat) (s : Sm), G[k]? = some s → (∃ p, F[k]? = some p ∧ s.1 = p.1) ∧ La.Due6 7 s.2, ⟨g, c, b, [], rfl, ok, rfl, rfl, by simp⟩, ?_, ?_⟩
                · rintro i x acc e hx ⟨g, c, b, G, rfl, ok, rfl, hG, hgs⟩
                  obtain ⟨p, hp, rfl⟩ := get_map hx
                  have hiF := (List.getElem?_eq_some_iff.mp hp).1
                  obtain ⟨_, hd⟩ := hrow i p hp
                  walk_at "wh"
                  refine ⟨rfl, ?_⟩
                  walk_at "go"
                  refine ⟨g, c, b, _, rfl, ok, by omega, fun g c b u ok hu0 hu => ?_⟩
                  obtain ⟨f, hf, af⟩ := pick4 (a := 1) (b := 1) (c := 2) (d := 3) hu0 (by omega : u < 4)
                  obtain ⟨f0, f1, f2⟩ := due_of hd hf
                  walk_at "go"
                  refine ⟨_, af, ?_⟩
                  walk_at "wh"
                  refine ⟨p.2, f, rfl, f0, f1, ?_⟩
                  walk_at "go"
                  · refine ⟨g, c, b, G ++ [(p.1, Rat.divInt p.2 f)], rfl, ok, by rw [List.map_append]; rfl, by rw [List.length_append, hG]; rfl, fun k s hk => ?_⟩
                    rcases La.snoc_get hk with ⟨_, hk⟩ | ⟨ek, hk⟩
                    · exact hgs k s hk
                    · rw [hk, ek, hG]
                      exact ⟨⟨p, hp, rfl⟩, f2⟩
                  · rw [List.length_map]
                    exact Pf.small64 (by omega)
                  · exact (by decide : 2 ≤ sizeLine)
                  · exact (by decide : 4 ≤ sizeLine)
                · rintro acc e ⟨g, c, b, G, rfl, ok, rfl, hG, hgs⟩
                  rw [List.length_map] at hG
                  walk_at "wh"
                  refine q g c b G ok (drawn_ok lt2 s2 len2 (by omega) (fun k s hk => ?_) fun k s hk => (hgs k s hk).2)
                  obtain ⟨⟨p, hp, e⟩, _⟩ := hgs k s hk
                  rw [e]
                  exact (hrow k p hp).1
            · exact Nat.zero_le _
      all_goals omega
    all_goals omega
  all_goals omega
theorem f_law_drawn {P : Program} {w : World} {K : Fg} {mg : Str → Option Value} {base : Heap} {f : Addr} {fd : FuncData} (g : Gs K mg) (h_law_tap : Has P w K mg base "_law_tap" ["pool", "many"] 1 sp_law_tap) (h_law_quotient : Has P w K mg base "_law_quotient" ["top", "bottom"] 2 sp_law_quotient) (h_law_sum : Has P w K mg base "_law_sum" ["line"] 3 sp_law_sum) (F : Fun K "_law_drawn" "_law_drawn" s_law_drawn f fd) : FnOk P w K mg base CX0 4 f fd ["cask", "many", "most", "least"] (SpOf K sp_law_drawn) :=
  fn_ok F sc_law_drawn [0] (fun cdv A outer s H E hr => q_law_drawn g h_law_tap h_law_quotient h_law_sum cdv A outer s H E hr) (by walk_at "len") (by walk_at "keep") m_law_drawn

end K82
set_option Elab.async false
set_option linter.all false
set_option maxRecDepth 100000
set_option maxHeartbeats 1000000
set_option exponentiation.threshold 20000
set_option pp.deepTerms false
set_option pp.maxSteps 500
namespace K82
open PySem PySem.Spec PyProof.Rows L2 Pf
local macro_rules | `(tactic| walk_at "go") => `(tactic| (conv => whnf) <;> repeat ((first | refine atE rfl ?_ | refine andR ?_ ?_); (conv => whnf)))
local macro_rules | `(tactic| walk_at "wh") => `(tactic| conv => whnf)
local macro_rules | `(tactic| walk_at "len") => `(tactic| (intro os Q h; (repeat (obtain ⟨_, h⟩ := h)); subst_vars; rfl))
local macro_rules | `(tactic| walk_at "keep") => `(tactic| (intro os Q h; (repeat (obtain ⟨_, h⟩ := h)); subst_vars; simp [keepOk]))
local macro_rules | `(tactic| walk_at "mono") => `(tactic| (intro os k k' f; repeat (first | exact f _ _ | refine Exists.imp fun _ => ?_ | refine And.imp_right ?_ | refine forall_imp fun _ => ?_)))
/-! what the law holds -/
def sp_law_holds : FSp := fun os Q => ∃ (g : List Int) (c b : Int) (n most least : Nat), os = [.res (poolR g c b), .d (.int n), .d (.int most), .d (.int least), .d (.int 1000)] ∧ PoolOk g c b ∧ 2 ≤ n ∧ n ≤ 10 ∧ 1 ≤ most ∧ most ≤ 40 ∧ least ≤ 8 ∧
  ∀ g' c' b', PoolOk g' c' b' → Q (.d (.bool true)) [.res (poolR g' c' b'), .d (.int n), .d (.int most), .d (.int least), .d (.int 1000)]
theorem mono_law_holds : sp_law_holds.Mono := fun os k k' f ⟨g, c, b, n, most, least, a1, a2, a3, a4, a5, a6, a7, h⟩ => ⟨g, c, b, n, most, least, a1, a2, a3, a4, a5, a6, a7, fun g' c' b' h1 => f _ _ (h g' c' b' h1)⟩
abbrev envH (g : List Int) (c b : Int) (n most least : Nat) (form : List Sm) (ns : List Str) (one other : List Sm) (o9 o10 o13 o14 o15 o16 o17 : Option O) : Pf.Env := [some (.res (poolR g c b)), some (.d (.int n)), some (.d (.int most)), some (.d (.int least)), some (.d (.int 1000)), some (.d (sumsD form)), some (.d (strD ns)), some (.d (bookD ns one)), some (.d (bookD ns other)), o9, o10, none, none, o13, o14, o15, o16, o17]
theorem shaped_of {x : Str} (h : ∀ c ∈ x.cps.toList, c < 128) : SeqAt.shaped (.str x) = true := by
  show (PyData.canLay0 (.str x) && decide (PyData.depth (.str x) ≤ 64)) = true
  rw [Bool.and_eq_true]
  refine ⟨?_, by simp [PyData.depth]⟩
  simp only [PyData.canLay0]
  show x.cps.all (· < 0x110000) = true
  rw [Array.all_eq_true]
  intro i hi
  have := h x.cps[i] (by simp)
  simp
  omega
theorem shaped_strs {ns : List Str} (h : ∀ x ∈ ns, SeqAt.shaped (.str x) = true) : SeqAt.shaped (.tuple (ns.map PyData.str)) = true := by
  have key : ∀ l : List Str, (∀ x ∈ l, SeqAt.shaped (.str x) = true) → PyData.canLayAll0 (l.map PyData.str) = true ∧ PyData.depthAll (l.map PyData.str) = 0 := by
    intro l
    induction l with
    | nil => intro _; exact ⟨by simp [PyData.canLayAll0], by simp [PyData.depthAll]⟩
    | cons x l ih =>
      intro h
      obtain ⟨a, b⟩ := ih fun y m => h y (List.mem_cons_of_mem _ m)
      have hx := SeqAt.canLay_of_shaped (h x List.mem_cons_self)
      refine ⟨?_, ?_⟩
      · simp only [List.map_cons, PyData.canLayAll0, a, hx]
        rfl
      · simp only [List.map_cons, PyData.depthAll, b, PyData.depth]
        rfl
  obtain ⟨a, b⟩ := key ns h
  show (PyData.canLay0 (.tuple (ns.map PyData.str)) && decide (PyData.depth (.tuple (ns.map PyData.str)) ≤ 64)) = true
  rw [Bool.and_eq_true]
  refine ⟨by simp only [PyData.canLay0]; exact a, decide_eq_true ?_⟩
  simp only [PyData.depth, b]
  decide
theorem fig_shaped {ns : List Str} (h : FigOk ns) : ∀ x ∈ ns, SeqAt.shaped (.str x) = true := fun x m => shaped_of (h.nm x m).2
theorem nodup_of_map {α β : Type} {f : α → β} : ∀ {l : List α}, (l.map f).Nodup → l.Nodup
  | [], _ => List.nodup_nil
  | x :: l, h => by
    rw [List.map_cons, List.nodup_cons] at h
    rw [List.nodup_cons]
    exact ⟨fun m => h.1 (List.mem_map_of_mem m), nodup_of_map h.2⟩
/-- the further name -/
theorem more_ok {t : Int} (h0 : 0 ≤ t) (ht : t < 10) : ∃ d : Nat, (("n0" : Str) ++ (toString t : Str)).cps.toList = [110, 48, d] ∧ d < 128 ∧ (toString t : Str).length ≤ 10 := by
  obtain ⟨m, rfl⟩ := Int.eq_ofNat_of_zero_le h0
  match m, ht with
  | 0, _ => exact ⟨48, by decide +kernel, by decide, by decide +kernel⟩
  | 1, _ => exact ⟨49, by decide +kernel, by decide, by decide +kernel⟩
  | 2, _ => exact ⟨50, by decide +kernel, by decide, by decide +kernel⟩
  | 3, _ => exact ⟨51, by decide +kernel, by decide, by decide +kernel⟩
  | 4, _ => exact ⟨52, by decide +kernel, by decide, by decide +kernel⟩
  | 5, _ => exact ⟨53, by decide +kernel, by decide, by decide +kernel⟩
  | 6, _ => exact ⟨54, by decide +kernel, by decide, by decide +kernel⟩
  | 7, _ => exact ⟨55, by decide +kernel, by decide, by decide +kernel⟩
  | 8, _ => exact ⟨56, by decide +kernel, by decide, by decide +kernel⟩
  | 9, _ => exact ⟨57, by decide +kernel, by decide, by decide +kernel⟩
  | m + 10, h => omega
theorem more_no {ns : List Str} {x : Str} {d : Nat} (h : FigOk ns) (e : x.cps.toList = [110, 48, d]) : x ∉ ns := fun m => by
  have := (h.nm x m).1
  rw [e] at this
  exact this rfl
@[irreducible] def rH8 : RS := (rSeq (rIfS (rCmp (dEq false) (rP (rD (rCB fLen (rACons (rP (rD (rOp dIx (rN 7) (rP (rC (.int 1)))))) rANil)))) (rP (rC (.int 0)))) (rRet (rO (rC (.bool true)))) rNext)
  (rSeq (rSet 14 (rCall sp_law_tap (rACons (rN 0) (rACons (rP (rD (rCB fLen (rACons (rP (rD (rOp dIx (rN 7) (rP (rC (.int 1)))))) rANil)))) rANil))))
  (rSeq (rSet 17 (rO (rTup (rCons (rVar 6) (rCons (rD (rOp dAdd (rP (rD (rSl (rP (rD (rOp dIx (rN 7) (rP (rC (.int 1)))))) rNoI (rSoI (rVar 14))))) (rP (rD (rSl (rP (rD (rOp dIx (rN 7) (rP (rC (.int 1)))))) (rSoI (rD (rOp dAdd (rN 14) (rP (rC (.int 1)))))) rNoI))))) rNil)))))
  (rSeq (rIfS (rOr (rNot (rTb (rD (rCall sp_law_same (rACons (rP (rD (rCall sp_without_sum (rACons (rN 7) (rACons (rN 14) rANil))))) (rACons (rN 17) rANil)))))) (rNot (rTb (rD (rCall sp_law_same (rACons (rP (rD (rCall sp_row_form (rACons (rN 17) rANil)))) (rACons (rP (rD (rCall sp_law_form (rACons (rN 17) rANil)))) rANil))))))) (rRet (rO (rC (.bool false)))) rNext)
  (rRet (rCall sp_law_same (rACons (rP (rD (rCall sp_alike_books (rACons (rN 17) (rACons (rN 8) rANil))))) (rACons (rP (rTV (rCmp (dEq false) (rP (rD (rCB fLen (rACons (rP (rD (rCall sp_law_form (rACons (rN 17) rANil)))) rANil)))) (rP (rD (rCB fLen (rACons (rN 5) rANil))))))) rANil))))))))
@[irreducible] def rH7 : RS := (rSeq (rSet 16 (rCall sp_law_turned (rACons (rN 0) (rACons (rN 7) rANil))))
  (rSeq (rIfS (rOr (rNot (rTb (rD (rCall sp_law_same (rACons (rP (rD (rCall sp_row_form (rACons (rN 16) rANil)))) (rACons (rP (rD (rCall sp_law_form (rACons (rN 16) rANil)))) rANil)))))) (rNot (rTb (rD (rCall sp_law_same (rACons (rP (rD (rCall sp_rank_of (rACons (rN 16) rANil)))) (rACons (rP (rD (rCB fLen (rACons (rN 5) rANil)))) rANil))))))) (rRet (rO (rC (.bool false)))) rNext)
  rH8))
@[irreducible] def rH6 : RS := (rSeq (rIfS (rCmp bLe (rP (rD (rOp dAdd (rP (rD (rCB fLen (rACons (rP (rD (rOp dIx (rN 7) (rP (rC (.int 1)))))) rANil)))) (rP (rD (rCB fLen (rACons (rP (rD (rOp dIx (rN 8) (rP (rC (.int 1)))))) rANil))))))) (rP (rC (.int 8)))) (rSeq (rSet 15 (rO (rTup (rCons (rVar 6) (rCons (rD (rOp dAdd (rP (rD (rOp dIx (rN 7) (rP (rC (.int 1)))))) (rP (rD (rOp dIx (rN 8) (rP (rC (.int 1)))))))) rNil)))))
  (rIfS (rOr (rNot (rTb (rD (rCall sp_law_same (rACons (rP (rD (rCall sp_joined_book (rACons (rN 7) (rACons (rN 8) rANil))))) (rACons (rN 15) rANil)))))) (rNot (rTb (rD (rCall sp_law_same (rACons (rP (rD (rCall sp_row_form (rACons (rN 15) rANil)))) (rACons (rN 5) rANil))))))) (rRet (rO (rC (.bool false)))) rNext)) rNext)
  rH7)
@[irreducible] def rH5 : RS := (rSeq (rSet 14 (rCall sp_law_tap (rACons (rN 0) (rACons (rN 1) rANil))))
  (rSeq (rSet 9 (rO (rTup (rCons (rD (rOp dAdd (rP (rD (rOp dAdd (rP (rD (rSl (rN 6) rNoI (rSoI (rVar 14))))) (rP (rTup (rCons (rVar 13) rNil)))))) (rP (rD (rSl (rN 6) (rSoI (rD (rOp dAdd (rN 14) (rP (rC (.int 1)))))) rNoI))))) (rCons (rD (rOp dIx (rN 7) (rP (rC (.int 1))))) rNil)))))
  (rSeq (rIfS (rOr (rNot (rTb (rD (rCall sp_law_same (rACons (rP (rD (rCall sp_renamed_book (rACons (rN 7) (rACons (rP (rTup (rCons (rTup (rCons (rD (rOp dIx (rN 6) (rN 14))) (rCons (rVar 13) rNil))) rNil))) rANil))))) (rACons (rN 9) rANil)))))) (rNot (rTb (rD (rCall sp_law_same (rACons (rP (rD (rCall sp_row_form (rACons (rN 9) rANil)))) (rACons (rN 5) rANil))))))) (rRet (rO (rC (.bool false)))) rNext)
  rH6)))
@[irreducible] def rH4 : RS := (rSeq (rIfS (rCmp bLt (rN 1) (rP (rC (.int 10)))) (rSeq (rSet 9 (rO (rTup (rCons (rD (rOp dAdd (rN 6) (rP (rTup (rCons (rVar 13) rNil))))) (rCons (rD (rCB fTuple (rACons (rP (rD (rLc (rFs (rD (rOp dIx (rN 8) (rP (rC (.int 1)))))) (rGt 2 (rGcons (rGn 11) (rGcons (rGn 12) rGnil))) rYes (rTup (rCons (rD (rOp dAdd (rN 11) (rP (rTup (rCons (rC (.int 0)) rNil))))) (rCons (rVar 12) rNil))) [11, 12]))) rANil))) rNil)))))
  (rIfS (rOr (rNot (rTb (rD (rCall sp_law_same (rACons (rP (rD (rCall sp_with_figure (rACons (rN 8) (rACons (rN 13) rANil))))) (rACons (rN 9) rANil)))))) (rNot (rTb (rD (rCall sp_law_same (rACons (rP (rD (rCall sp_row_form (rACons (rN 9) rANil)))) (rACons (rN 10) rANil))))))) (rRet (rO (rC (.bool false)))) rNext)) rNext)
  rH5)
@[irreducible] def rH3 : RS := (rSeq (rSet 13 (rOp dAdd (rP (rC (.str "n0"))) (rP (rD (rCB fStr (rACons (rP (rD (rCall sp_law_tap (rACons (rN 0) (rACons (rP (rC (.int 10))) rANil))))) rANil))))))
  rH4)
@[irreducible] def rH2 : RS := (rSeq (rSet 10 (rCB fTuple (rACons (rP (rD (rLc (rFs (rVar 5)) (rGt 2 (rGcons (rGn 11) (rGcons (rGn 12) rGnil))) rYes (rTup (rCons (rD (rOp dAdd (rN 11) (rP (rTup (rCons (rC (.int 0)) rNil))))) (rCons (rVar 12) rNil))) [11, 12]))) rANil)))
  rH3)
@[irreducible] def rH1 : RS := (rSeq (rIfS (rOr (rNot (rTb (rD (rCall sp_law_same (rACons (rP (rD (rCall sp_alike_books (rACons (rN 7) (rACons (rN 8) rANil))))) (rACons (rP (rC (.bool true))) rANil)))))) (rNot (rTb (rD (rCall sp_law_same (rACons (rP (rD (rCall sp_hidden_book (rACons (rN 7) (rACons (rP (rTup rNil)) rANil))))) (rACons (rP (rTup (rCons (rVar 6) (rCons (rVar 5) rNil)))) rANil))))))) (rRet (rO (rC (.bool false)))) rNext)
  rH2)
/-- what stands when the law looks -/
structure Hol (form : List Sm) (ns : List Str) (one other : List Sm) : Prop where
  n2 : 2 ≤ ns.length
  n10 : ns.length ≤ 10
  rnf : La.Rnf ns.length form
  midf : La.Mid ns.length 7 form form
  few : form.length ≤ 8
  fig : FigOk ns
  mid1 : La.Mid ns.length 60 form one
  few1 : one.length ≤ 8
  mid2 : La.Mid ns.length 60 form other
  few2 : other.length ≤ 8
section
variable {g : List Int} {c b : Int} {most least : Nat} {form : List Sm} {ns : List Str} {one other : List Sm} {o9 o10 o13 o14 o15 o16 o17 : Option O} {E : Pf.End}
abbrev EndH (E : Pf.End) (most least : Nat) (form : List Sm) (ns : List Str) (one other : List Sm) : Prop := ∀ g c b, PoolOk g c b → ∀ o9 o10 o13 o14 o15 o16 o17, E.rt (.d (.bool true)) (envH g c b ns.length most least form ns one other o9 o10 o13 o14 o15 o16 o17)
theorem h8 (hl : Hol form ns one other) (ok : PoolOk g c b) (hE : EndH E most least form ns one other) : rH8 E (envH g c b ns.length most least form ns one other o9 o10 o13 o14 o15 o16 o17) := by
  unfold rH8
  have l1 : (one.map sumD).length = one.length := List.length_map _
  have n2 := hl.n2
  have n10 := hl.n10
  have few1 := hl.few1
  walk_at "go"
  refine decI (fun h => ?_) (fun h => ?_)
  · walk_at "wh"
    exact hE g c b ok _ _ _ _ _ _ _
  · have h : ¬ decide ((((one.map sumD).length : Nat) : Int) = 0) = true := h
    rw [l1] at h
    have hpos : 0 < one.length := by
      have : ¬ ((one.length : Nat) : Int) = 0 := by simpa using h
      omega
    walk_at "go"
    refine ⟨g, c, b, _, rfl, ok, by rw [l1]; omega, fun g c b t ok h0 ht => ?_⟩
    rw [l1] at ht
    have ht : t < one.length := by omega
    obtain ⟨a, rfl⟩ := Int.eq_ofNat_of_zero_le h0
    have e1 : cut (one.map sumD) none (some ((a : Nat) : Int)) = (one.take a).map sumD := by rw [cut_take, List.map_take]
    have e2 : cut (one.map sumD) (some ((a : Nat) + 1 : Int)) none = (one.drop (a + 1)).map sumD := by
      rw [show ((a : Nat) + 1 : Int) = ((a + 1 : Nat) : Int) from rfl, cut_drop, List.map_drop]
    have ez : PyData.tuple [strD ns, .tuple ((one.take a).map sumD ++ (one.drop (a + 1)).map sumD)] = bookD ns (one.take a ++ one.drop (a + 1)) := by
      rw [← List.map_append]
      rfl
    have lz : (one.take a ++ one.drop (a + 1)).length ≤ 8 := by
      rw [List.length_append, List.length_take, List.length_drop]
      omega
    obtain ⟨bk, fo, ef, ao, ae⟩ := La.use_less hl.n2 (by omega) hl.rnf hl.mid1 hl.few1 hl.mid2 hl.few2 (less := one.take a ++ one.drop (a + 1)) (fun s m => (List.mem_append.mp m).elim List.mem_of_mem_take List.mem_of_mem_drop) lz
    have shn := fig_shaped hl.fig
    have sht := shaped_strs shn
    walk_at "go"
    · rw [e1, e2, ez]
      refine ⟨one, ns, a, rfl, by omega, ?_⟩
      have hs : ∀ s ∈ one.take a ++ one.drop (a + 1), s ∈ one := fun s m => (List.mem_append.mp m).elim List.mem_of_mem_take List.mem_of_mem_drop
      generalize one.take a ++ one.drop (a + 1) = less at *
      obtain ⟨kb, pb, hkb⟩ := La.pln_book (rows := less) shn (by omega) bk.wide lz (show ns.length ≤ 11 by omega)
      obtain ⟨kf, pf, hkf⟩ := La.pln_sums (rows := La.formL ns.length less) (n := ns.length) (fun s m => let ⟨i, hi, e⟩ := List.getElem_of_mem m; let ⟨_, _, p⟩ := La.formL_rnf bk.wide; (p i s (by rw [List.getElem?_eq_getElem hi, e])).1) (Nat.le_trans (La.Rnf.le hl.rnf (La.formL_rnf bk.wide) fun s m => (La.formL_sub bk.wide s m).trans fun u q => hl.mid1.sub u (hs u q)) hl.few) (by omega)
      walk_at "wh"
      refine ⟨_, kb, rfl, pb, hkb, ?_⟩
      walk_at "wh"
      refine ⟨less, ns, 3000, rfl, fo, ?_⟩
      walk_at "wh"
      refine ⟨less, ns, rfl, bk, by omega, by omega, ?_⟩
      rw [ef]
      walk_at "wh"
      refine ⟨_, kf, rfl, pf, by omega, ?_⟩
      walk_at "wh"
      refine ⟨less, other, ns, 3000, rfl, sht, ao, ?_⟩
      rw [ae]
      walk_at "wh"
      refine ⟨less, ns, rfl, bk, by omega, by omega, ?_⟩
      walk_at "wh"
      have ed : (if false = true then !decide ((((La.formL ns.length less).map sumD).length : Int) = (form.map sumD).length) else decide ((((La.formL ns.length less).map sumD).length : Int) = (form.map sumD).length)) = decide ((La.formL ns.length less).length = form.length) := by
        rw [if_neg (by decide), List.length_map, List.length_map]
        by_cases q : (La.formL ns.length less).length = form.length
        · rw [decide_eq_true q, decide_eq_true (by rw [q])]
        · rw [decide_eq_false q, decide_eq_false (by omega)]
      refine ⟨.bool (decide ((La.formL ns.length less).length = form.length)), 1, by rw [ed], .bl _, by decide, ?_⟩
      walk_at "wh"
      exact hE g c b ok _ _ _ _ _ _ _
    · exact (by decide : 2 ≤ sizeLine)
    · rw [e1, e2, List.length_map, List.length_map, List.length_take, List.length_drop]
      exact Nat.le_of_lt (Pf.small64 (by omega))
/-- the figures turned about -/
theorem h7 (hl : Hol form ns one other) (ok : PoolOk g c b) (hE : EndH E most least form ns one other) : rH7 E (envH g c b ns.length most least form ns one other o9 o10 o13 o14 o15 o16 o17) := by
  unfold rH7
  have n2 := hl.n2
  have n10 := hl.n10
  walk_at "go"
  refine ⟨g, c, b, ns, one, rfl, ok, n10, hl.few1, hl.mid1.wide, fun g c b order ok ord => ?_⟩
  obtain ⟨fo, ef, el, bk⟩ := La.use_turn ord n2 (by omega) hl.rnf hl.midf.wide hl.mid1 hl.few1
  have ln : (turnN order ns).length = ns.length := by unfold turnN; rw [List.length_map, ord.len]
  generalize turnN order ns = nt at *
  generalize turnR order one = rt at *
  obtain ⟨kf, pf, hkf⟩ := La.pln_sums (rows := La.formL ns.length rt) (n := ns.length) (fun s m => let ⟨i, hi, e⟩ := List.getElem_of_mem m; let ⟨_, _, p⟩ := La.formL_rnf bk.wide; (p i s (by rw [List.getElem?_eq_getElem hi, e])).1) (by rw [← ef, el]; exact hl.few) (by omega)
  walk_at "wh"
  refine ⟨rt, nt, 3000, rfl, by rw [ln]; exact fo, ?_⟩
  walk_at "wh"
  refine ⟨rt, nt, rfl, by rw [ln]; exact bk, by omega, by omega, ?_⟩
  rw [ln, ef]
  walk_at "wh"
  refine ⟨_, kf, rfl, pf, by omega, ?_⟩
  walk_at "wh"
  refine ⟨rt, nt, 3000, rfl, by rw [ln]; exact fo, ?_⟩
  rw [ln, el]
  walk_at "wh"
  refine ⟨.int (form.length : Nat), 1, by rw [List.length_map], .int _, by decide, ?_⟩
  walk_at "wh"
  exact h8 hl ok hE
/-- both joined -/
theorem h6 (hl : Hol form ns one other) (ok : PoolOk g c b) (hE : EndH E most least form ns one other) : rH6 E (envH g c b ns.length most least form ns one other o9 o10 o13 o14 o15 o16 o17) := by
  unfold rH6
  have n2 := hl.n2
  have n10 := hl.n10
  have l1 : (one.map sumD).length = one.length := List.length_map _
  have l2 : (other.map sumD).length = other.length := List.length_map _
  walk_at "go"
  refine decI (fun h => ?_) (fun h => ?_)
  · have h : (((one.map sumD).length : Nat) : Int) + (((other.map sumD).length : Nat) : Int) ≤ 8 := of_decide_eq_true h
    rw [l1, l2] at h
    have ez : PyData.tuple [strD ns, .tuple (one.map sumD ++ other.map sumD)] = bookD ns (one ++ other) := by
      rw [← List.map_append]
      rfl
    have lz : (one ++ other).length ≤ 8 := by rw [List.length_append]; omega
    have mj := La.use_join hl.mid1 hl.mid2
    obtain ⟨fo, ef⟩ := La.use_form n2 (by omega) hl.rnf mj lz
    obtain ⟨kb, pb, hkb⟩ := La.pln_book (rows := one ++ other) (fig_shaped hl.fig) (by omega) mj.wide lz (show ns.length ≤ 11 by omega)
    obtain ⟨kf, pf, hkf⟩ := La.pln_sums hl.midf.wide hl.few (show ns.length ≤ 11 by omega)
    have nd := nodup_of_map hl.fig.nd
    walk_at "go"
    · rw [ez]
      refine ⟨one, other, ns, rfl, nd, by omega, by omega, by omega, hl.mid1.wide, hl.mid2.wide, ?_⟩
      generalize one ++ other = both at *
      walk_at "wh"
      refine ⟨_, kb, rfl, pb, hkb, ?_⟩
      walk_at "wh"
      refine ⟨both, ns, 3000, rfl, fo, ?_⟩
      rw [ef]
      walk_at "wh"
      refine ⟨_, kf, rfl, pf, by omega, ?_⟩
      walk_at "wh"
      exact h7 hl ok hE
    · exact (by decide : 2 ≤ sizeLine)
    · rw [l1, l2]
      exact Nat.le_of_lt (Pf.small64 (by omega))
  · walk_at "wh"
    exact h7 hl ok hE
/-- another name -/
theorem ren_set {ns : List Str} {i : Nat} {a b : Str} (nd : ns.Nodup) (h : ns[i]? = some a) : renamed ns a b = ns.set i b := by
  have hi := (List.getElem?_eq_some_iff.mp h).1
  unfold renamed
  refine List.ext_getElem? fun j => ?_
  rw [List.getElem?_map]
  by_cases e : j = i
  · subst e
    rw [h, List.getElem?_set_self hi]
    show some (if a = a then b else a) = some b
    rw [if_pos rfl]
  · rw [List.getElem?_set_ne (fun z => e z.symm)]
    cases q : ns[j]? with
    | none => rfl
    | some x =>
      have ne : x ≠ a := fun z => by
        subst z
        have hj := (List.getElem?_eq_some_iff.mp q).1
        have e1 := (List.getElem?_eq_some_iff.mp q).2
        have e2 := (List.getElem?_eq_some_iff.mp h).2
        have pw := List.pairwise_iff_getElem.mp nd
        by_cases lt : j < i
        · exact pw j i hj hi lt (e1.trans e2.symm)
        · exact pw i j hi hj (by omega) (e2.trans e1.symm)
      show some (if x = a then b else x) = some x
      rw [if_neg ne]
theorem ren_eq {ns : List Str} {i : Nat} {a b : Str} (nd : ns.Nodup) (h : ns[i]? = some a) : renamed ns a b = ns.take i ++ [b] ++ ns.drop (i + 1) := by
  have hi := (List.getElem?_eq_some_iff.mp h).1
  rw [ren_set nd h, List.set_eq_take_append_cons_drop, if_pos hi, List.append_assoc]
  rfl
theorem ren_nd {ns : List Str} {i : Nat} {a b : Str} (nd : ns.Nodup) (h : ns[i]? = some a) (hb : b ∉ ns) : (renamed ns a b).Nodup := by
  have hi := (List.getElem?_eq_some_iff.mp h).1
  rw [ren_set nd h]
  have p := mem_of_erase (l := ns.set i b) (i := i) (x := b) (List.getElem?_set_self hi)
  have e : (ns.set i b).eraseIdx i = ns.eraseIdx i := by
    refine List.ext_getElem? fun j => ?_
    rw [List.getElem?_eraseIdx, List.getElem?_eraseIdx]
    split
    · rw [List.getElem?_set_ne (by omega)]
    · rw [List.getElem?_set_ne (by omega)]
  rw [e] at p
  refine p.nodup_iff.mp ?_
  rw [List.nodup_cons]
  exact ⟨fun m => hb (List.mem_of_mem_eraseIdx m), nd.sublist (List.eraseIdx_sublist _ _)⟩
theorem h5 {more : Str} {d : Nat} (hl : Hol form ns one other) (ok : PoolOk g c b) (hm : more.cps.toList = [110, 48, d]) (hd : d < 128) (hE : EndH E most least form ns one other) : rH5 E (envH g c b ns.length most least form ns one other o9 o10 (some (.d (.str more))) o14 o15 o16 o17) := by
  unfold rH5
  have n2 := hl.n2
  have n10 := hl.n10
  have ln : (ns.map PyData.str).length = ns.length := List.length_map _
  have nd := nodup_of_map hl.fig.nd
  have shn := fig_shaped hl.fig
  have shm : SeqAt.shaped (.str more) = true := shaped_of fun c hc => by
    rw [hm] at hc
    simp at hc
    omega
  walk_at "go"
  refine ⟨g, c, b, _, rfl, ok, by omega, fun g c b t ok h0 ht => ?_⟩
  have ht : t < ns.length := by omega
  obtain ⟨i, rfl⟩ := Int.eq_ofNat_of_zero_le h0
  obtain ⟨a, ha, ma⟩ := getAt (show i < ns.length by omega)
  have e1 : cut (ns.map PyData.str) none (some ((i : Nat) : Int)) = (ns.take i).map PyData.str := by rw [cut_take, List.map_take]
  have e2 : cut (ns.map PyData.str) (some ((i : Nat) + 1 : Int)) none = (ns.drop (i + 1)).map PyData.str := by
    rw [show ((i : Nat) + 1 : Int) = ((i + 1 : Nat) : Int) from rfl, cut_drop, List.map_drop]
  have ez : PyData.tuple [.tuple ((ns.take i).map PyData.str ++ [.str more] ++ (ns.drop (i + 1)).map PyData.str), sumsD one] = bookD (renamed ns a more) one := by
    rw [ren_eq nd ha]
    unfold bookD
    rw [List.map_append, List.map_append]
    rfl
  have lr : (renamed ns a more).length = ns.length := List.length_map _
  have ndr := ren_nd nd ha (more_no hl.fig hm)
  have shr : ∀ x ∈ renamed ns a more, SeqAt.shaped (.str x) = true := fun x m => by
    obtain ⟨y, my, rfl⟩ := List.mem_map.mp m
    split
    · exact shm
    · exact shn y my
  obtain ⟨fo, ef⟩ := La.use_form n2 (by omega) hl.rnf hl.mid1 hl.few1
  obtain ⟨kb, pb, hkb⟩ := La.pln_book (rows := one) shr (by omega) hl.mid1.wide hl.few1 (show ns.length ≤ 11 by omega)
  obtain ⟨kf, pf, hkf⟩ := La.pln_sums hl.midf.wide hl.few (show ns.length ≤ 11 by omega)
  walk_at "go"
  · rw [e1, e2, ez]
    refine ⟨_, atI_map (f := PyData.str) ha, ?_⟩
    walk_at "go"
    · refine ⟨one, ns, a, more, rfl, ndr, by omega, ?_⟩
      generalize renamed ns a more = nr at *
      walk_at "wh"
      refine ⟨_, kb, rfl, pb, hkb, ?_⟩
      walk_at "wh"
      refine ⟨one, nr, 3000, rfl, by rw [lr]; exact fo, ?_⟩
      rw [lr, ef]
      walk_at "wh"
      refine ⟨_, kf, rfl, pf, by omega, ?_⟩
      walk_at "wh"
      exact h6 hl ok hE
    all_goals first
      | exact (by decide : 1 ≤ sizeLine)
      | exact (by decide : 2 ≤ sizeLine)
  · exact (by decide : 2 ≤ sizeLine)
  · rw [e1, e2, List.length_append, List.length_map, List.length_map, List.length_take, List.length_drop, List.length_singleton]
    exact Nat.le_of_lt (Pf.small64 (by omega))
  · rw [e1, List.length_map, List.length_take, List.length_singleton]
    exact Nat.le_of_lt (Pf.small64 (by omega))
  · exact (by decide : 1 ≤ sizeLine)
/-- a further figure -/
theorem extD (s : Sm) : sumD (La.extS s) = .tuple [.tuple (zD s.1 ++ [.int 0]), qD s.2] := by
  unfold sumD La.extS zD
  rw [List.map_append]
  rfl
theorem h4 {more : Str} {d : Nat} (hl : Hol form ns one other) (ok : PoolOk g c b) (hm : more.cps.toList = [110, 48, d]) (hd : d < 128) (hE : EndH E most least form ns one other) : rH4 E (envH g c b ns.length most least form ns one other o9 (some (.d (sumsD (form.map La.extS)))) (some (.d (.str more))) o14 o15 o16 o17) := by
  unfold rH4
  have n2 := hl.n2
  have n10 := hl.n10
  have nd := nodup_of_map hl.fig.nd
  have shn := fig_shaped hl.fig
  have shm : SeqAt.shaped (.str more) = true := shaped_of fun c hc => by
    rw [hm] at hc
    simp at hc
    omega
  have l2 : (other.map sumD).length = other.length := List.length_map _
  have few2 := hl.few2
  walk_at "go"
  refine decI (fun h => ?_) (fun h => ?_)
  · have hn : (ns.length : Int) < 10 := of_decide_eq_true h
    have ndx : (ns ++ [more]).Nodup := by
      rw [List.nodup_append]
      refine ⟨nd, by simp, fun a ha b hb e => ?_⟩
      rw [List.mem_singleton.mp hb] at e
      exact more_no hl.fig hm (e ▸ ha)
    have shx : ∀ x ∈ ns ++ [more], SeqAt.shaped (.str x) = true := fun x m => by
      rcases List.mem_append.mp m with m | m
      · exact shn x m
      · rw [List.mem_singleton.mp m]; exact shm
    have lx : (ns ++ [more]).length = ns.length + 1 := by rw [List.length_append]; rfl
    have ez : PyData.tuple [.tuple (ns.map PyData.str ++ [.str more]), .tuple ((other.map La.extS).map sumD)] = bookD (ns ++ [more]) (other.map La.extS) := by
      unfold bookD
      rw [List.map_append]
      rfl
    obtain ⟨rw', mw⟩ := La.use_wide hl.rnf hl.midf.wide hl.mid2
    have lw : (other.map La.extS).length ≤ 8 := by rw [List.length_map]; exact few2
    have lfw : (form.map La.extS).length ≤ 8 := by rw [List.length_map]; exact hl.few
    have mfw := (La.use_wide hl.rnf hl.midf.wide hl.midf).2
    obtain ⟨fo, ef⟩ := La.use_form (show 2 ≤ ns.length + 1 by omega) (by omega) rw' mw lw
    obtain ⟨kb, pb, hkb⟩ := La.pln_book (rows := other.map La.extS) shx (by omega) mw.wide lw (by omega)
    obtain ⟨kf, pf, hkf⟩ := La.pln_sums mfw.wide lfw (by omega)
    walk_at "go"
    · refine lc_mapE (fun e => e = envH g c b ns.length most least form ns one other o9 (some (.d (sumsD (form.map La.extS)))) (some (.d (.str more))) o14 o15 o16 o17) (ys := (other.map La.extS).map sumD) rfl (by simp) (by rw [l2]; omega) ?_ ?_
      · rintro j z y k' _ rfl hx hy hk'
        obtain ⟨s, hs, rfl⟩ := get_map hx
        have hy2 : y = sumD (La.extS s) := by
          rw [List.getElem?_map, List.getElem?_map, hs] at hy
          exact (Option.some.inj hy).symm
        subst hy2
        rw [extD] at hk'
        have hsw := hl.mid2.wide s (List.mem_of_getElem? hs)
        walk_at "wh"
        refine ⟨rfl, ?_⟩
        walk_at "go"
        · exact hk' _ rfl
        · exact (by decide : 2 ≤ sizeLine)
        · show (zD s.1).length + 1 ≤ sizeLine
          unfold zD
          rw [List.length_map]
          exact Nat.le_of_lt (Pf.small64 (by omega))
        · exact (by decide : 1 ≤ sizeLine)
      rintro e rfl
      walk_at "go"
      · rw [ez]
        refine ⟨other, ns, more, rfl, ndx, by omega, by omega, fun s m => by rw [hl.mid2.wide s m]; omega, ?_⟩
        have ee : (other.map fun s => (s.1 ++ [0], s.2)) = other.map La.extS := rfl
        rw [ee]
        generalize ns ++ [more] = nx at *
        generalize other.map La.extS = ox at *
        walk_at "wh"
        refine ⟨_, kb, rfl, pb, hkb, ?_⟩
        walk_at "wh"
        refine ⟨ox, nx, 3000, rfl, by rw [lx]; exact fo, ?_⟩
        rw [lx, ef]
        walk_at "wh"
        refine ⟨_, kf, rfl, pf, by omega, ?_⟩
        walk_at "wh"
        exact h5 hl ok hm hd hE
      · exact (by decide : 2 ≤ sizeLine)
    · rw [List.length_map, List.length_singleton]
      exact Nat.le_of_lt (Pf.small64 (by omega))
    · exact (by decide : 1 ≤ sizeLine)
  · walk_at "wh"
    exact h5 hl ok hm hd hE
theorem h3 (hl : Hol form ns one other) (ok : PoolOk g c b) (hE : EndH E most least form ns one other) : rH3 E (envH g c b ns.length most least form ns one other o9 (some (.d (sumsD (form.map La.extS)))) o13 o14 o15 o16 o17) := by
  unfold rH3
  walk_at "go"
  refine ⟨g, c, b, _, rfl, ok, by omega, fun g c b t ok h0 ht => ?_⟩
  have ht : t < 10 := by omega
  obtain ⟨d, ed, hd, hlen⟩ := more_ok h0 ht
  walk_at "go"
  · exact h4 hl ok ed hd hE
  · show 2 + (toString t : Str).length ≤ sizeLine
    exact Nat.le_of_lt (Pf.small64 (by omega))
  · show t.natAbs.log2 < 1920
    have : t.natAbs < 2 ^ 4 := by omega
    exact Nat.lt_of_lt_of_le (log2_lt_of_lt this (by decide)) (by decide)
theorem h2 (hl : Hol form ns one other) (ok : PoolOk g c b) (hE : EndH E most least form ns one other) : rH2 E (envH g c b ns.length most least form ns one other o9 o10 o13 o14 o15 o16 o17) := by
  unfold rH2
  have n2 := hl.n2
  have n10 := hl.n10
  have few := hl.few
  have lf : (form.map sumD).length = form.length := List.length_map _
  walk_at "go"
  refine lc_mapE (fun e => e = envH g c b ns.length most least form ns one other o9 o10 o13 o14 o15 o16 o17) (ys := (form.map La.extS).map sumD) rfl (by simp) (by rw [lf]; omega) ?_ ?_
  · rintro j z y k' _ rfl hx hy hk'
    obtain ⟨s, hs, rfl⟩ := get_map hx
    have hy2 : y = sumD (La.extS s) := by
      rw [List.getElem?_map, List.getElem?_map, hs] at hy
      exact (Option.some.inj hy).symm
    subst hy2
    rw [extD] at hk'
    have hsw := hl.midf.wide s (List.mem_of_getElem? hs)
    walk_at "wh"
    refine ⟨rfl, ?_⟩
    walk_at "go"
    · exact hk' _ rfl
    · exact (by decide : 2 ≤ sizeLine)
    · show (zD s.1).length + 1 ≤ sizeLine
      unfold zD
      rw [List.length_map]
      exact Nat.le_of_lt (Pf.small64 (by omega))
    · exact (by decide : 1 ≤ sizeLine)
  rintro e rfl
  walk_at "wh"
  exact h3 hl ok hE
theorem h1 (hl : Hol form ns one other) (ok : PoolOk g c b) (hE : EndH E most least form ns one other) : rH1 E (envH g c b ns.length most least form ns one other o9 o10 o13 o14 o15 o16 o17) := by
  unfold rH1
  have n2 := hl.n2
  have n10 := hl.n10
  have shn := fig_shaped hl.fig
  have sht := shaped_strs shn
  obtain ⟨ao, ae⟩ := La.use_alike n2 (by omega) hl.rnf hl.mid1 hl.few1 hl.mid2 hl.few2
  obtain ⟨fo1, ef1⟩ := La.use_form n2 (by omega) hl.rnf hl.mid1 hl.few1
  obtain ⟨fo0, ef0⟩ := La.use_form n2 (by omega) hl.rnf (hl.midf.mono (by omega : 7 ≤ 60)) hl.few
  obtain ⟨k, pk, hk⟩ := La.pln_book (rows := form) shn (by omega) hl.midf.wide hl.few (show ns.length ≤ 11 by omega)
  walk_at "wh"
  refine ⟨one, other, ns, 3000, rfl, sht, ao, ?_⟩
  rw [ae]
  walk_at "wh"
  refine ⟨.bool true, 1, rfl, .bl _, by decide, ?_⟩
  walk_at "go"
  · refine ⟨one, ns, 3000, rfl, fo1, by rw [ef1]; exact fo0, ?_⟩
    rw [ef1, ef0]
    walk_at "go"
    · refine ⟨_, k, rfl, pk, hk, ?_⟩
      walk_at "wh"
      exact h2 hl ok hE
    all_goals exact (by decide : 2 ≤ sizeLine)
  · exact (by decide : 0 ≤ sizeLine)
end
end K82
set_option Elab.async false
set_option linter.all false
set_option maxRecDepth 100000
set_option maxHeartbeats 1000000
set_option exponentiation.threshold 20000
set_option pp.deepTerms false
set_option pp.maxSteps 500
namespace K82
open PySem PySem.Spec PyProof.Rows L2 Pf
local macro_rules | `(tactic| walk_at "go") => `(tactic| (conv => whnf) <;> repeat ((first | refine atE rfl ?_ | refine andR ?_ ?_); (conv => whnf)))
local macro_rules | `(tactic| walk_at "wh") => `(tactic| conv => whnf)
local macro_rules | `(tactic| walk_at "len") => `(tactic| (intro os Q h; (repeat (obtain ⟨_, h⟩ := h)); subst_vars; rfl))
local macro_rules | `(tactic| walk_at "keep") => `(tactic| (intro os Q h; (repeat (obtain ⟨_, h⟩ := h)); subst_vars; simp [keepOk]))
local macro_rules | `(tactic| walk_at "mono") => `(tactic| (intro os k k' f; repeat (first | exact f _ _ | refine Exists.imp fun _ => ?_ | refine And.imp_right ?_ | refine forall_imp fun _ => ?_)))
/-! what the law holds: the walk; theorem mono_law_holds stands above -/
/-! ### _law_holds -/
abbrev s_law_holds : Stmt := topS 75
abbrev n_law_holds : List Str := ["cask", "many", "most", "least", "bound", "form", "names", "one", "other", "book", "wide", "parts", "due", "more", "at", "both", "turned", "less"]
theorem sc_law_holds : FnScope n_law_holds ["cask", "many", "most", "least", "bound"] (defScope s_law_holds) := ⟨rfl, rfl, rfl, by decide +kernel, rfl, by decide +kernel, by decide +kernel⟩
def r_law_holds : RS := (rSeq (rSet 5 (rCB fTuple (rACons (rP (rD (rCall sp_law_drawn (rACons (rN 0) (rACons (rN 1) (rACons (rN 2) (rACons (rN 3) rANil))))))) rANil)))
  (rSeq (rSet 6 (rCall sp_law_figures (rACons (rN 0) (rACons (rN 1) rANil))))
  (rSeq (rSet 7 (rO (rTup (rCons (rVar 6) (rCons (rD (rCall sp_law_mixed (rACons (rN 0) (rACons (rN 5) (rACons (rN 4) rANil))))) rNil)))))
  (rSeq (rSet 8 (rO (rTup (rCons (rVar 6) (rCons (rD (rCall sp_law_mixed (rACons (rN 0) (rACons (rN 5) (rACons (rN 4) rANil))))) rNil)))))
  (rSeq (rFor (rFs (rTup (rCons (rVar 7) (rCons (rVar 8) (rCons (rTup (rCons (rVar 6) (rCons (rVar 5) rNil))) rNil))))) (rGn 9) (rIfS (rOr (rNot (rTb (rD (rCall sp_law_same (rACons (rP (rD (rCall sp_row_form (rACons (rN 9) rANil)))) (rACons (rN 5) rANil)))))) (rNot (rTb (rD (rCall sp_law_same (rACons (rP (rD (rCall sp_rank_of (rACons (rN 9) rANil)))) (rACons (rP (rD (rCB fLen (rACons (rN 5) rANil)))) rANil))))))) (rRet (rO (rC (.bool false)))) rNext))
  (rSeq (rIfS (rOr (rNot (rTb (rD (rCall sp_law_same (rACons (rP (rD (rCall sp_alike_books (rACons (rN 7) (rACons (rN 8) rANil))))) (rACons (rP (rC (.bool true))) rANil)))))) (rNot (rTb (rD (rCall sp_law_same (rACons (rP (rD (rCall sp_hidden_book (rACons (rN 7) (rACons (rP (rTup rNil)) rANil))))) (rACons (rP (rTup (rCons (rVar 6) (rCons (rVar 5) rNil)))) rANil))))))) (rRet (rO (rC (.bool false)))) rNext)
  (rSeq (rSet 10 (rCB fTuple (rACons (rP (rD (rLc (rFs (rVar 5)) (rGt 2 (rGcons (rGn 11) (rGcons (rGn 12) rGnil))) rYes (rTup (rCons (rD (rOp dAdd (rN 11) (rP (rTup (rCons (rC (.int 0)) rNil))))) (rCons (rVar 12) rNil))) [11, 12]))) rANil)))
  (rSeq (rSet 13 (rOp dAdd (rP (rC (.str "n0"))) (rP (rD (rCB fStr (rACons (rP (rD (rCall sp_law_tap (rACons (rN 0) (rACons (rP (rC (.int 10))) rANil))))) rANil))))))
  (rSeq (rIfS (rCmp bLt (rN 1) (rP (rC (.int 10)))) (rSeq (rSet 9 (rO (rTup (rCons (rD (rOp dAdd (rN 6) (rP (rTup (rCons (rVar 13) rNil))))) (rCons (rD (rCB fTuple (rACons (rP (rD (rLc (rFs (rD (rOp dIx (rN 8) (rP (rC (.int 1)))))) (rGt 2 (rGcons (rGn 11) (rGcons (rGn 12) rGnil))) rYes (rTup (rCons (rD (rOp dAdd (rN 11) (rP (rTup (rCons (rC (.int 0)) rNil))))) (rCons (rVar 12) rNil))) [11, 12]))) rANil))) rNil)))))
  (rIfS (rOr (rNot (rTb (rD (rCall sp_law_same (rACons (rP (rD (rCall sp_with_figure (rACons (rN 8) (rACons (rN 13) rANil))))) (rACons (rN 9) rANil)))))) (rNot (rTb (rD (rCall sp_law_same (rACons (rP (rD (rCall sp_row_form (rACons (rN 9) rANil)))) (rACons (rN 10) rANil))))))) (rRet (rO (rC (.bool false)))) rNext)) rNext)
  (rSeq (rSet 14 (rCall sp_law_tap (rACons (rN 0) (rACons (rN 1) rANil))))
  (rSeq (rSet 9 (rO (rTup (rCons (rD (rOp dAdd (rP (rD (rOp dAdd (rP (rD (rSl (rN 6) rNoI (rSoI (rVar 14))))) (rP (rTup (rCons (rVar 13) rNil)))))) (rP (rD (rSl (rN 6) (rSoI (rD (rOp dAdd (rN 14) (rP (rC (.int 1)))))) rNoI))))) (rCons (rD (rOp dIx (rN 7) (rP (rC (.int 1))))) rNil)))))
  (rSeq (rIfS (rOr (rNot (rTb (rD (rCall sp_law_same (rACons (rP (rD (rCall sp_renamed_book (rACons (rN 7) (rACons (rP (rTup (rCons (rTup (rCons (rD (rOp dIx (rN 6) (rN 14))) (rCons (rVar 13) rNil))) rNil))) rANil))))) (rACons (rN 9) rANil)))))) (rNot (rTb (rD (rCall sp_law_same (rACons (rP (rD (rCall sp_row_form (rACons (rN 9) rANil)))) (rACons (rN 5) rANil))))))) (rRet (rO (rC (.bool false)))) rNext)
  (rSeq (rIfS (rCmp bLe (rP (rD (rOp dAdd (rP (rD (rCB fLen (rACons (rP (rD (rOp dIx (rN 7) (rP (rC (.int 1)))))) rANil)))) (rP (rD (rCB fLen (rACons (rP (rD (rOp dIx (rN 8) (rP (rC (.int 1)))))) rANil))))))) (rP (rC (.int 8)))) (rSeq (rSet 15 (rO (rTup (rCons (rVar 6) (rCons (rD (rOp dAdd (rP (rD (rOp dIx (rN 7) (rP (rC (.int 1)))))) (rP (rD (rOp dIx (rN 8) (rP (rC (.int 1)))))))) rNil)))))
  (rIfS (rOr (rNot (rTb (rD (rCall sp_law_same (rACons (rP (rD (rCall sp_joined_book (rACons (rN 7) (rACons (rN 8) rANil))))) (rACons (rN 15) rANil)))))) (rNot (rTb (rD (rCall sp_law_same (rACons (rP (rD (rCall sp_row_form (rACons (rN 15) rANil)))) (rACons (rN 5) rANil))))))) (rRet (rO (rC (.bool false)))) rNext)) rNext)
  (rSeq (rSet 16 (rCall sp_law_turned (rACons (rN 0) (rACons (rN 7) rANil))))
  (rSeq (rIfS (rOr (rNot (rTb (rD (rCall sp_law_same (rACons (rP (rD (rCall sp_row_form (rACons (rN 16) rANil)))) (rACons (rP (rD (rCall sp_law_form (rACons (rN 16) rANil)))) rANil)))))) (rNot (rTb (rD (rCall sp_law_same (rACons (rP (rD (rCall sp_rank_of (rACons (rN 16) rANil)))) (rACons (rP (rD (rCB fLen (rACons (rN 5) rANil)))) rANil))))))) (rRet (rO (rC (.bool false)))) rNext)
  (rSeq (rIfS (rCmp (dEq false) (rP (rD (rCB fLen (rACons (rP (rD (rOp dIx (rN 7) (rP (rC (.int 1)))))) rANil)))) (rP (rC (.int 0)))) (rRet (rO (rC (.bool true)))) rNext)
  (rSeq (rSet 14 (rCall sp_law_tap (rACons (rN 0) (rACons (rP (rD (rCB fLen (rACons (rP (rD (rOp dIx (rN 7) (rP (rC (.int 1)))))) rANil)))) rANil))))
  (rSeq (rSet 17 (rO (rTup (rCons (rVar 6) (rCons (rD (rOp dAdd (rP (rD (rSl (rP (rD (rOp dIx (rN 7) (rP (rC (.int 1)))))) rNoI (rSoI (rVar 14))))) (rP (rD (rSl (rP (rD (rOp dIx (rN 7) (rP (rC (.int 1)))))) (rSoI (rD (rOp dAdd (rN 14) (rP (rC (.int 1)))))) rNoI))))) rNil)))))
  (rSeq (rIfS (rOr (rNot (rTb (rD (rCall sp_law_same (rACons (rP (rD (rCall sp_without_sum (rACons (rN 7) (rACons (rN 14) rANil))))) (rACons (rN 17) rANil)))))) (rNot (rTb (rD (rCall sp_law_same (rACons (rP (rD (rCall sp_row_form (rACons (rN 17) rANil)))) (rACons (rP (rD (rCall sp_law_form (rACons (rN 17) rANil)))) rANil))))))) (rRet (rO (rC (.bool false)))) rNext)
  (rRet (rCall sp_law_same (rACons (rP (rD (rCall sp_alike_books (rACons (rN 17) (rACons (rN 8) rANil))))) (rACons (rP (rTV (rCmp (dEq false) (rP (rD (rCB fLen (rACons (rP (rD (rCall sp_law_form (rACons (rN 17) rANil)))) rANil)))) (rP (rD (rCB fLen (rACons (rN 5) rANil))))))) rANil)))))))))))))))))))))))
theorem q_law_holds {P : Program} {w : World} {K : Fg} {mg : Str → Option Value} {base : Heap} {f : Addr} (g : Gs K mg) (h_row_form : Has P w K mg base "row_form" ["book"] 9 sp_row_form) (h_rank_of : Has P w K mg base "rank_of" ["book"] 10 sp_rank_of) (h_alike_books : Has P w K mg base "alike_books" ["one", "other"] 10 sp_alike_books) (h_without_sum : Has P w K mg base "without_sum" ["book", "number"] 1 sp_without_sum) (h_with_figure : Has P w K mg base "with_figure" ["book", "name"] 2 sp_with_figure) (h_renamed_book : Has P w K mg base "renamed_book" ["book", "pairs"] 2 sp_renamed_book) (h_joined_book : Has P w K mg base "joined_book" ["one", "other"] 2 sp_joined_book) (h_hidden_book : Has P w K mg base "hidden_book" ["book", "numbers"] 10 sp_hidden_book) (h_law_tap : Has P w K mg base "_law_tap" ["pool", "many"] 1 sp_law_tap) (h_law_same : Has P w K mg base "_law_same" ["told", "due"] 2 sp_law_same) (h_law_form : Has P w K mg base "_law_form" ["book"] 4 sp_law_form) (h_law_figures : Has P w K mg base "_law_figures" ["cask", "many"] 2 sp_law_figures) (h_law_drawn : Has P w K mg base "_law_drawn" ["cask", "many", "most", "least"] 4 sp_law_drawn) (h_law_mixed : Has P w K mg base "_law_mixed" ["cask", "form", "most"] 5 sp_law_mixed) (h_law_turned : Has P w K mg base "_law_turned" ["cask", "book"] 2 sp_law_turned) (cdv : Value) (A : Around) (outer : List PySem.Env) (s : Shared) (H : Hp) (E : XK) (hr : Room 10 (A.deeper (envOfC "_law_holds" (defScope s_law_holds) s.heap.objs.size f cdv))) :
    QSs (cxOf CX0 P w K mg base n_law_holds "_law_holds" (defScope s_law_holds) f cdv A outer s H E).nox [0] (defBody s_law_holds) r_law_holds :=
  (qss_cons (qs_set 5 sc_law_holds.nd (qe_tuple g.tuple (qa_cons ((QE.v (qe_call h_law_drawn (hr.mono (by decide)) (qa_cons (qp_var 0) (qa_cons (qp_var 1) (qa_cons (qp_var 2) (qa_cons (qp_var 3) qa_nil))))))).p qa_nil)))
  (qss_cons (qs_set 6 sc_law_holds.nd (qe_call h_law_figures (hr.mono (by decide)) (qa_cons (qp_var 0) (qa_cons (qp_var 1) qa_nil))))
  (qss_cons (qs_set 7 sc_law_holds.nd (QV.o (qv_tup (ql_cons (qv_var 6) (ql_cons (QE.v (qe_call h_law_mixed (hr.mono (by decide)) (qa_cons (qp_var 0) (qa_cons (qp_var 5) (qa_cons (qp_var 4) qa_nil))))) ql_nil)))))
  (qss_cons (qs_set 8 sc_law_holds.nd (QV.o (qv_tup (ql_cons (qv_var 6) (ql_cons (QE.v (qe_call h_law_mixed (hr.mono (by decide)) (qa_cons (qp_var 0) (qa_cons (qp_var 5) (qa_cons (qp_var 4) qa_nil))))) ql_nil)))))
  (qss_cons (qs_for PassesOwn.never rfl (qf_seq (qv_tup (ql_cons (qv_var 7) (ql_cons (qv_var 8) (ql_cons (qv_tup (ql_cons (qv_var 6) (ql_cons (qv_var 5) ql_nil))) ql_nil))))) (qg_name 9 sc_law_holds.nd) (qss_one (qs_if (QW.t (qw_or (qt_not (qt_call (QE.v (qe_call h_law_same (hr.mono (by decide)) (qa_cons ((QE.v (qe_call h_row_form (hr.mono (by decide)) (qa_cons (qp_var 9) qa_nil)))).p (qa_cons (qp_var 5) qa_nil)))))) (qw_or1 (qt_not (qt_call (QE.v (qe_call h_law_same (hr.mono (by decide)) (qa_cons ((QE.v (qe_call h_rank_of (hr.mono (by decide)) (qa_cons (qp_var 9) qa_nil)))).p (qa_cons ((QE.v (qe_len g.len (qa_cons (qp_var 5) qa_nil)))).p qa_nil))))))))) (qss_one (qs_ret (QV.o qv_bl))) qss_nil)))
  (qss_cons (qs_if (QW.t (qw_or (qt_not (qt_call (QE.v (qe_call h_law_same (hr.mono (by decide)) (qa_cons ((QE.v (qe_call h_alike_books (hr.mono (by decide)) (qa_cons (qp_var 7) (qa_cons (qp_var 8) qa_nil))))).p (qa_cons (qv_bl).p qa_nil)))))) (qw_or1 (qt_not (qt_call (QE.v (qe_call h_law_same (hr.mono (by decide)) (qa_cons ((QE.v (qe_call h_hidden_book (hr.mono (by decide)) (qa_cons (qp_var 7) (qa_cons ((qv_tup ql_nil)).p qa_nil))))).p (qa_cons ((qv_tup (ql_cons (qv_var 6) (ql_cons (qv_var 5) ql_nil)))).p qa_nil))))))))) (qss_one (qs_ret (QV.o qv_bl))) qss_nil)
  (qss_cons (qs_set 10 sc_law_holds.nd (qe_tuple g.tuple (qa_cons ((QE.v (qe_lc (own := [("parts", 11), ("due", 12)]) rfl sc_law_holds.nd (qf_seq (qv_var 5)) (blkOk_by (by rfl)) (fun _ _ _ _ _ => (qg_tup 2 rfl (qgs_cons (qg_name 11 sc_law_holds.nd) (qgs_cons (qg_name 12 sc_law_holds.nd) qgs_nil)))) (fun _ _ _ _ _ => qts_nil) (fun _ _ _ _ _ => (qv_tup (ql_cons (QE.v (qe_add (qp_var 11) ((qv_tup (ql_cons qv_int ql_nil))).p)) (ql_cons (qv_var 12) ql_nil))))))).p qa_nil)))
  (qss_cons (qs_set 13 sc_law_holds.nd (qe_add (qv_str).p ((QE.v (qe_str1 g.str (qa_cons ((QE.v (qe_call h_law_tap (hr.mono (by decide)) (qa_cons (qp_var 0) (qa_cons (qv_int).p qa_nil))))).p qa_nil)))).p))
  (qss_cons (qs_if (qt_lt (qp_var 1) (qv_int).p) (qss_cons (qs_set 9 sc_law_holds.nd (QV.o (qv_tup (ql_cons (QE.v (qe_add (qp_var 6) ((qv_tup (ql_cons (qv_var 13) ql_nil))).p)) (ql_cons (QE.v (qe_tuple g.tuple (qa_cons ((QE.v (qe_lc (own := [("parts", 11), ("due", 12)]) rfl sc_law_holds.nd (qf_seq (qv_ix (qp_var 8) (qv_int).p)) (blkOk_by (by rfl)) (fun _ _ _ _ _ => (qg_tup 2 rfl (qgs_cons (qg_name 11 sc_law_holds.nd) (qgs_cons (qg_name 12 sc_law_holds.nd) qgs_nil)))) (fun _ _ _ _ _ => qts_nil) (fun _ _ _ _ _ => (qv_tup (ql_cons (QE.v (qe_add (qp_var 11) ((qv_tup (ql_cons qv_int ql_nil))).p)) (ql_cons (qv_var 12) ql_nil))))))).p qa_nil))) ql_nil)))))
  (qss_one (qs_if (QW.t (qw_or (qt_not (qt_call (QE.v (qe_call h_law_same (hr.mono (by decide)) (qa_cons ((QE.v (qe_call h_with_figure (hr.mono (by decide)) (qa_cons (qp_var 8) (qa_cons (qp_var 13) qa_nil))))).p (qa_cons (qp_var 9) qa_nil)))))) (qw_or1 (qt_not (qt_call (QE.v (qe_call h_law_same (hr.mono (by decide)) (qa_cons ((QE.v (qe_call h_row_form (hr.mono (by decide)) (qa_cons (qp_var 9) qa_nil)))).p (qa_cons (qp_var 10) qa_nil))))))))) (qss_one (qs_ret (QV.o qv_bl))) qss_nil))) qss_nil)
  (qss_cons (qs_set 14 sc_law_holds.nd (qe_call h_law_tap (hr.mono (by decide)) (qa_cons (qp_var 0) (qa_cons (qp_var 1) qa_nil))))
  (qss_cons (qs_set 9 sc_law_holds.nd (QV.o (qv_tup (ql_cons (QE.v (qe_add ((QE.v (qe_add ((QE.v (qe_slice (qp_var 6) qi_none (qi_some (qv_var 14))))).p ((qv_tup (ql_cons (qv_var 13) ql_nil))).p))).p ((QE.v (qe_slice (qp_var 6) (qi_some (QE.v (qe_add (qp_var 14) (qv_int).p))) qi_none))).p)) (ql_cons (qv_ix (qp_var 7) (qv_int).p) ql_nil)))))
  (qss_cons (qs_if (QW.t (qw_or (qt_not (qt_call (QE.v (qe_call h_law_same (hr.mono (by decide)) (qa_cons ((QE.v (qe_call h_renamed_book (hr.mono (by decide)) (qa_cons (qp_var 7) (qa_cons ((qv_tup (ql_cons (qv_tup (ql_cons (qv_ix (qp_var 6) (qp_var 14)) (ql_cons (qv_var 13) ql_nil))) ql_nil))).p qa_nil))))).p (qa_cons (qp_var 9) qa_nil)))))) (qw_or1 (qt_not (qt_call (QE.v (qe_call h_law_same (hr.mono (by decide)) (qa_cons ((QE.v (qe_call h_row_form (hr.mono (by decide)) (qa_cons (qp_var 9) qa_nil)))).p (qa_cons (qp_var 5) qa_nil))))))))) (qss_one (qs_ret (QV.o qv_bl))) qss_nil)
  (qss_cons (qs_if (qt_le ((QE.v (qe_add ((QE.v (qe_len g.len (qa_cons ((qv_ix (qp_var 7) (qv_int).p)).p qa_nil)))).p ((QE.v (qe_len g.len (qa_cons ((qv_ix (qp_var 8) (qv_int).p)).p qa_nil)))).p))).p (qv_int).p) (qss_cons (qs_set 15 sc_law_holds.nd (QV.o (qv_tup (ql_cons (qv_var 6) (ql_cons (QE.v (qe_add ((qv_ix (qp_var 7) (qv_int).p)).p ((qv_ix (qp_var 8) (qv_int).p)).p)) ql_nil)))))
  (qss_one (qs_if (QW.t (qw_or (qt_not (qt_call (QE.v (qe_call h_law_same (hr.mono (by decide)) (qa_cons ((QE.v (qe_call h_joined_book (hr.mono (by decide)) (qa_cons (qp_var 7) (qa_cons (qp_var 8) qa_nil))))).p (qa_cons (qp_var 15) qa_nil)))))) (qw_or1 (qt_not (qt_call (QE.v (qe_call h_law_same (hr.mono (by decide)) (qa_cons ((QE.v (qe_call h_row_form (hr.mono (by decide)) (qa_cons (qp_var 15) qa_nil)))).p (qa_cons (qp_var 5) qa_nil))))))))) (qss_one (qs_ret (QV.o qv_bl))) qss_nil))) qss_nil)
  (qss_cons (qs_set 16 sc_law_holds.nd (qe_call h_law_turned (hr.mono (by decide)) (qa_cons (qp_var 0) (qa_cons (qp_var 7) qa_nil))))
  (qss_cons (qs_if (QW.t (qw_or (qt_not (qt_call (QE.v (qe_call h_law_same (hr.mono (by decide)) (qa_cons ((QE.v (qe_call h_row_form (hr.mono (by decide)) (qa_cons (qp_var 16) qa_nil)))).p (qa_cons ((QE.v (qe_call h_law_form (hr.mono (by decide)) (qa_cons (qp_var 16) qa_nil)))).p qa_nil)))))) (qw_or1 (qt_not (qt_call (QE.v (qe_call h_law_same (hr.mono (by decide)) (qa_cons ((QE.v (qe_call h_rank_of (hr.mono (by decide)) (qa_cons (qp_var 16) qa_nil)))).p (qa_cons ((QE.v (qe_len g.len (qa_cons (qp_var 5) qa_nil)))).p qa_nil))))))))) (qss_one (qs_ret (QV.o qv_bl))) qss_nil)
  (qss_cons (qs_if (qt_eq hr.units ((QE.v (qe_len g.len (qa_cons ((qv_ix (qp_var 7) (qv_int).p)).p qa_nil)))).p (qv_int).p) (qss_one (qs_ret (QV.o qv_bl))) qss_nil)
  (qss_cons (qs_set 14 sc_law_holds.nd (qe_call h_law_tap (hr.mono (by decide)) (qa_cons (qp_var 0) (qa_cons ((QE.v (qe_len g.len (qa_cons ((qv_ix (qp_var 7) (qv_int).p)).p qa_nil)))).p qa_nil))))
  (qss_cons (qs_set 17 sc_law_holds.nd (QV.o (qv_tup (ql_cons (qv_var 6) (ql_cons (QE.v (qe_add ((QE.v (qe_slice ((qv_ix (qp_var 7) (qv_int).p)).p qi_none (qi_some (qv_var 14))))).p ((QE.v (qe_slice ((qv_ix (qp_var 7) (qv_int).p)).p (qi_some (QE.v (qe_add (qp_var 14) (qv_int).p))) qi_none))).p)) ql_nil)))))
  (qss_cons (qs_if (QW.t (qw_or (qt_not (qt_call (QE.v (qe_call h_law_same (hr.mono (by decide)) (qa_cons ((QE.v (qe_call h_without_sum (hr.mono (by decide)) (qa_cons (qp_var 7) (qa_cons (qp_var 14) qa_nil))))).p (qa_cons (qp_var 17) qa_nil)))))) (qw_or1 (qt_not (qt_call (QE.v (qe_call h_law_same (hr.mono (by decide)) (qa_cons ((QE.v (qe_call h_row_form (hr.mono (by decide)) (qa_cons (qp_var 17) qa_nil)))).p (qa_cons ((QE.v (qe_call h_law_form (hr.mono (by decide)) (qa_cons (qp_var 17) qa_nil)))).p qa_nil))))))))) (qss_one (qs_ret (QV.o qv_bl))) qss_nil)
  (qss_one (qs_ret (qe_call h_law_same (hr.mono (by decide)) (qa_cons ((QE.v (qe_call h_alike_books (hr.mono (by decide)) (qa_cons (qp_var 17) (qa_cons (qp_var 8) qa_nil))))).p (qa_cons ((qv_eq hr.units ((QE.v (qe_len g.len (qa_cons ((QE.v (qe_call h_law_form (hr.mono (by decide)) (qa_cons (qp_var 17) qa_nil)))).p qa_nil)))).p ((QE.v (qe_len g.len (qa_cons (qp_var 5) qa_nil)))).p)).p qa_nil))))))))))))))))))))))))

def rH0 : RS := (rSeq (rSet 5 (rCB fTuple (rACons (rP (rD (rCall sp_law_drawn (rACons (rN 0) (rACons (rN 1) (rACons (rN 2) (rACons (rN 3) rANil))))))) rANil)))
  (rSeq (rSet 6 (rCall sp_law_figures (rACons (rN 0) (rACons (rN 1) rANil))))
  (rSeq (rSet 7 (rO (rTup (rCons (rVar 6) (rCons (rD (rCall sp_law_mixed (rACons (rN 0) (rACons (rN 5) (rACons (rN 4) rANil))))) rNil)))))
  (rSeq (rSet 8 (rO (rTup (rCons (rVar 6) (rCons (rD (rCall sp_law_mixed (rACons (rN 0) (rACons (rN 5) (rACons (rN 4) rANil))))) rNil)))))
  (rSeq (rFor (rFs (rTup (rCons (rVar 7) (rCons (rVar 8) (rCons (rTup (rCons (rVar 6) (rCons (rVar 5) rNil))) rNil))))) (rGn 9) (rIfS (rOr (rNot (rTb (rD (rCall sp_law_same (rACons (rP (rD (rCall sp_row_form (rACons (rN 9) rANil)))) (rACons (rN 5) rANil)))))) (rNot (rTb (rD (rCall sp_law_same (rACons (rP (rD (rCall sp_rank_of (rACons (rN 9) rANil)))) (rACons (rP (rD (rCB fLen (rACons (rN 5) rANil)))) rANil))))))) (rRet (rO (rC (.bool false)))) rNext))
  rH1)))))
theorem rH_eq : r_law_holds = rH0 := by
  unfold r_law_holds rH0 rH1 rH2 rH3 rH4 rH5 rH6 rH7 rH8
  rfl
theorem m_law_holds (os : List O) (Q : O → List O → Prop) (h : sp_law_holds os Q) : Ends r_law_holds n_law_holds os Q := by
  obtain ⟨g, c, b, n, most, least, rfl, ok, n2, n10, m1, m40, l8, q⟩ := h
  rw [show Ends r_law_holds = Ends rH0 from by rw [rH_eq]]
  walk_at "wh"
  refine ⟨g, c, b, n, most, least, rfl, ok, n2, n10, m1, m40, l8, fun g c b form ok dr => ?_⟩
  obtain ⟨rnf, midf, few⟩ := dr
  walk_at "wh"
  refine ⟨g, c, b, n, rfl, ok, n10, fun g c b ns ok hns fig => ?_⟩
  subst hns
  walk_at "wh"
  refine ⟨g, c, b, form, ns.length, rfl, ok, midf, few, by omega, by omega, fun g c b one ok mid1 few1 => ?_⟩
  walk_at "go"
  · refine ⟨g, c, b, form, ns.length, rfl, ok, midf, few, by omega, by omega, fun g c b other ok mid2 few2 => ?_⟩
    have hl : Hol form ns one other := ⟨n2, n10, rnf, midf, few, fig, mid1, few1, mid2, few2⟩
    walk_at "go"
    · have lf : (form.map sumD).length = form.length := List.length_map _
      have mid0 : La.Mid ns.length 60 form form := midf.mono (by omega)
      obtain ⟨kf, pf, hkf⟩ := La.pln_sums midf.wide few (show ns.length ≤ 11 by omega)
      refine ⟨fun j e => ∃ o9, e = envH g c b ns.length most least form ns one other o9 none none none none none none, ⟨none, rfl⟩, ?_, ?_⟩
      · rintro j x e hx ⟨o9, rfl⟩
        have hb : ∃ rows, x = bookD ns rows ∧ La.Mid ns.length 60 form rows ∧ rows.length ≤ 8 := by
          match j, hx with
          | 0, hx => exact ⟨one, (Option.some.inj hx).symm, mid1, few1⟩
          | 1, hx => exact ⟨other, (Option.some.inj hx).symm, mid2, few2⟩
          | 2, hx => exact ⟨form, (Option.some.inj hx).symm, mid0, few⟩
          | j + 3, hx => cases hx
        obtain ⟨rows, rfl, mid, hl⟩ := hb
        obtain ⟨fo, ef⟩ := La.use_form n2 (by omega) rnf mid hl
        walk_at "wh"
        refine ⟨rows, ns, 3000, rfl, fo, ?_⟩
        rw [ef]
        walk_at "wh"
        refine ⟨_, kf, rfl, pf, by omega, ?_⟩
        walk_at "wh"
        refine ⟨rows, ns, 3000, rfl, fo, ?_⟩
        rw [ef]
        walk_at "wh"
        refine ⟨.int (form.length : Nat), 1, by rw [lf], .int _, by decide, ?_⟩
        walk_at "wh"
        exact ⟨_, rfl⟩
      · rintro e ⟨o9, rfl⟩
        walk_at "wh"
        exact h1 hl ok fun g c b ok _ _ _ _ _ _ _ => q g c b ok
    · exact (by decide : 3 ≤ sizeLine)
    · exact (by decide : 2 ≤ sizeLine)
    · exact (by decide : 2 ≤ sizeLine)
  all_goals exact (by decide : 2 ≤ sizeLine)
theorem f_law_holds {P : Program} {w : World} {K : Fg} {mg : Str → Option Value} {base : Heap} {f : Addr} {fd : FuncData} (g : Gs K mg) (h_row_form : Has P w K mg base "row_form" ["book"] 9 sp_row_form) (h_rank_of : Has P w K mg base "rank_of" ["book"] 10 sp_rank_of) (h_alike_books : Has P w K mg base "alike_books" ["one", "other"] 10 sp_alike_books) (h_without_sum : Has P w K mg base "without_sum" ["book", "number"] 1 sp_without_sum) (h_with_figure : Has P w K mg base "with_figure" ["book", "name"] 2 sp_with_figure) (h_renamed_book : Has P w K mg base "renamed_book" ["book", "pairs"] 2 sp_renamed_book) (h_joined_book : Has P w K mg base "joined_book" ["one", "other"] 2 sp_joined_book) (h_hidden_book : Has P w K mg base "hidden_book" ["book", "numbers"] 10 sp_hidden_book) (h_law_tap : Has P w K mg base "_law_tap" ["pool", "many"] 1 sp_law_tap) (h_law_same : Has P w K mg base "_law_same" ["told", "due"] 2 sp_law_same) (h_law_form : Has P w K mg base "_law_form" ["book"] 4 sp_law_form) (h_law_figures : Has P w K mg base "_law_figures" ["cask", "many"] 2 sp_law_figures) (h_law_drawn : Has P w K mg base "_law_drawn" ["cask", "many", "most", "least"] 4 sp_law_drawn) (h_law_mixed : Has P w K mg base "_law_mixed" ["cask", "form", "most"] 5 sp_law_mixed) (h_law_turned : Has P w K mg base "_law_turned" ["cask", "book"] 2 sp_law_turned) (F : Fun K "_law_holds" "_law_holds" s_law_holds f fd) : FnOk P w K mg base CX0 11 f fd ["cask", "many", "most", "least", "bound"] (SpOf K sp_law_holds) :=
  fn_ok F sc_law_holds [0] (fun cdv A outer s H E hr => q_law_holds g h_row_form h_rank_of h_alike_books h_without_sum h_with_figure h_renamed_book h_joined_book h_hidden_book h_law_tap h_law_same h_law_form h_law_figures h_law_drawn h_law_mixed h_law_turned cdv A outer s H E hr) (by walk_at "len") (by walk_at "keep") m_law_holds

end K82
set_option Elab.async false
set_option linter.all false
set_option maxRecDepth 100000
set_option maxHeartbeats 1000000
set_option exponentiation.threshold 20000
set_option pp.deepTerms false
set_option pp.maxSteps 500
namespace K82
open PySem PySem.Spec PyProof.Rows L2 Pf
local macro_rules | `(tactic| walk_at "go") => `(tactic| (conv => whnf) <;> repeat ((first | refine atE rfl ?_ | refine andR ?_ ?_); (conv => whnf)))
local macro_rules | `(tactic| walk_at "wh") => `(tactic| conv => whnf)
local macro_rules | `(tactic| walk_at "len") => `(tactic| (intro os Q h; (repeat (obtain ⟨_, h⟩ := h)); subst_vars; rfl))
local macro_rules | `(tactic| walk_at "keep") => `(tactic| (intro os Q h; (repeat (obtain ⟨_, h⟩ := h)); subst_vars; simp [keepOk]))
local macro_rules | `(tactic| walk_at "mono") => `(tactic| (intro os k k' f; repeat (first | exact f _ _ | refine Exists.imp fun _ => ?_ | refine And.imp_right ?_ | refine forall_imp fun _ => ?_)))
/-! the law -/
def sp_law : FSp := fun os Q => ∃ script : List Int, os = [.d (.list (zD script))] ∧ script.length ≤ 63 ∧ Q (.d (.bool true)) os
/-! ### law -/
abbrev s_law : Stmt := topS 76
abbrev n_law : List Str := ["script", "cask"]
theorem sc_law : FnScope n_law ["script"] (defScope s_law) := ⟨rfl, rfl, rfl, by decide +kernel, rfl, by decide +kernel, by decide +kernel⟩
def r_law : RS := (rSeq (rSet 1 (rCall sp_law_cask (rACons (rN 0) rANil)))
  (rSeq (rIfS (rNot (rTb (rD (rCall sp_law_holds (rACons (rN 1) (rACons (rP (rD (rOp dAdd (rP (rC (.int 2))) (rP (rD (rCall sp_law_tap (rACons (rN 1) (rACons (rP (rC (.int 5))) rANil)))))))) (rACons (rP (rD (rOp dIx (rP (rTup (rCons (rC (.int 1)) (rCons (rC (.int 3)) (rCons (rC (.int 9)) rNil))))) (rP (rD (rCall sp_law_tap (rACons (rN 1) (rACons (rP (rC (.int 3))) rANil)))))))) (rACons (rP (rD (rCall sp_law_tap (rACons (rN 1) (rACons (rP (rC (.int 2))) rANil))))) (rACons (rP (rC (.int 1000))) rANil))))))))) (rRet (rO (rC (.bool false)))) rNext)
  (rRet (rO (rOrV (rTV (rCmp (dEq true) (rP (rD (rCall sp_law_tap (rACons (rN 1) (rACons (rP (rC (.int 7))) rANil))))) (rP (rC (.int 6))))) (rD (rCall sp_law_holds (rACons (rN 1) (rACons (rP (rC (.int 10))) (rACons (rP (rD (rOp dIx (rP (rTup (rCons (rC (.int 40)) (rCons (rC (.int 5)) rNil)))) (rP (rD (rCall sp_law_tap (rACons (rN 1) (rACons (rP (rC (.int 2))) rANil)))))))) (rACons (rP (rC (.int 8))) (rACons (rP (rC (.int 1000))) rANil))))))))))))
theorem q_law {P : Program} {w : World} {K : Fg} {mg : Str → Option Value} {base : Heap} {f : Addr} (g : Gs K mg) (h_law_cask : Has P w K mg base "_law_cask" ["script"] 1 sp_law_cask) (h_law_tap : Has P w K mg base "_law_tap" ["pool", "many"] 1 sp_law_tap) (h_law_holds : Has P w K mg base "_law_holds" ["cask", "many", "most", "least", "bound"] 11 sp_law_holds) (cdv : Value) (A : Around) (outer : List PySem.Env) (s : Shared) (H : Hp) (E : XK) (hr : Room 11 (A.deeper (envOfC "law" (defScope s_law) s.heap.objs.size f cdv))) :
    QSs (cxOf CX0 P w K mg base n_law "law" (defScope s_law) f cdv A outer s H E).nox [] (defBody s_law) r_law :=
  (qss_cons (qs_set 1 sc_law.nd (qe_call h_law_cask (hr.mono (by decide)) (qa_cons (qp_var 0) qa_nil)))
  (qss_cons (qs_if (qt_not (qt_call (QE.v (qe_call h_law_holds (hr.mono (by decide)) (qa_cons (qp_var 1) (qa_cons ((QE.v (qe_add (qv_int).p ((QE.v (qe_call h_law_tap (hr.mono (by decide)) (qa_cons (qp_var 1) (qa_cons (qv_int).p qa_nil))))).p))).p (qa_cons ((qv_ix ((qv_tup (ql_cons qv_int (ql_cons qv_int (ql_cons qv_int ql_nil))))).p ((QE.v (qe_call h_law_tap (hr.mono (by decide)) (qa_cons (qp_var 1) (qa_cons (qv_int).p qa_nil))))).p)).p (qa_cons ((QE.v (qe_call h_law_tap (hr.mono (by decide)) (qa_cons (qp_var 1) (qa_cons (qv_int).p qa_nil))))).p (qa_cons (qv_int).p qa_nil))))))))) (qss_one (qs_ret (QV.o qv_bl))) qss_nil)
  (qss_one (qs_ret (QV.o (qv_or (qv_ne hr.units ((QE.v (qe_call h_law_tap (hr.mono (by decide)) (qa_cons (qp_var 1) (qa_cons (qv_int).p qa_nil))))).p (qv_int).p) (qv_one (QE.v (qe_call h_law_holds (hr.mono (by decide)) (qa_cons (qp_var 1) (qa_cons (qv_int).p (qa_cons ((qv_ix ((qv_tup (ql_cons qv_int (ql_cons qv_int ql_nil)))).p ((QE.v (qe_call h_law_tap (hr.mono (by decide)) (qa_cons (qp_var 1) (qa_cons (qv_int).p qa_nil))))).p)).p (qa_cons (qv_int).p (qa_cons (qv_int).p qa_nil))))))))))))))

theorem pick3 {a b c t : Int} (h0 : 0 ≤ t) (ht : t < 3) : ∃ f : Int, (f = a ∨ f = b ∨ f = c) ∧ atI [PyData.int a, .int b, .int c] t = some (.int f) := by
  obtain ⟨m, rfl⟩ := Int.eq_ofNat_of_zero_le h0
  match m, ht with
  | 0, _ => exact ⟨a, .inl rfl, rfl⟩
  | 1, _ => exact ⟨b, .inr (.inl rfl), rfl⟩
  | 2, _ => exact ⟨c, .inr (.inr rfl), rfl⟩
  | m + 3, h => omega
theorem pick2 {a b t : Int} (h0 : 0 ≤ t) (ht : t < 2) : ∃ f : Int, (f = a ∨ f = b) ∧ atI [PyData.int a, .int b] t = some (.int f) := by
  obtain ⟨m, rfl⟩ := Int.eq_ofNat_of_zero_le h0
  match m, ht with
  | 0, _ => exact ⟨a, .inl rfl, rfl⟩
  | 1, _ => exact ⟨b, .inr rfl, rfl⟩
  | m + 2, h => omega
theorem m_law (os : List O) (Q : O → List O → Prop) (h : sp_law os Q) : Ends r_law n_law os Q := by
  obtain ⟨script, rfl, hs, q⟩ := h
  walk_at "wh"
  refine ⟨script, rfl, hs, fun g c b ok => ?_⟩
  walk_at "go"
  refine ⟨g, c, b, _, rfl, ok, by omega, fun g c b t1 ok h1 ht1 => ?_⟩
  walk_at "go"
  refine ⟨g, c, b, _, rfl, ok, by omega, fun g c b t2 ok h2 ht2 => ?_⟩
  obtain ⟨f, hf, af⟩ := pick3 (a := 1) (b := 3) (c := 9) h2 (by omega : t2 < 3)
  walk_at "go"
  refine ⟨_, af, ?_⟩
  walk_at "go"
  refine ⟨g, c, b, _, rfl, ok, by omega, fun g c b t3 ok h3 ht3 => ?_⟩
  walk_at "wh"
  refine ⟨g, c, b, (2 + t1).toNat, f.toNat, t3.toNat, ?_, ok, by omega, by omega, by omega, by omega, by omega, fun g c b ok => ?_⟩
  · rw [show (((2 + t1).toNat : Nat) : Int) = 2 + t1 by omega, show ((f.toNat : Nat) : Int) = f by omega, show ((t3.toNat : Nat) : Int) = t3 by omega]
  walk_at "wh"
  refine ⟨g, c, b, _, rfl, ok, by omega, fun g c b t4 ok h4 ht4 => ?_⟩
  walk_at "wh"
  have tail : ∀ g c b, PoolOk g c b → (rD (rCall sp_law_holds (rACons (rN 1) (rACons (rP (rC (.int 10))) (rACons (rP (rD (rOp dIx (rP (rTup (rCons (rC (.int 40)) (rCons (rC (.int 5)) rNil)))) (rP (rD (rCall sp_law_tap (rACons (rN 1) (rACons (rP (rC (.int 2))) rANil)))))))) (rACons (rP (rC (.int 8))) (rACons (rP (rC (.int 1000))) rANil))))))) [some (.d (.list (zD script))), some (.res (poolR g c b))] (fun x e => finL e [.d (.list (zD script))] (Q (.d x))) := by
    intro g c b ok
    walk_at "go"
    · refine ⟨g, c, b, _, rfl, ok, by omega, fun g c b t5 ok h5 ht5 => ?_⟩
      obtain ⟨f, hf, af⟩ := pick2 (a := 40) (b := 5) h5 (by omega : t5 < 2)
      walk_at "go"
      refine ⟨_, af, ?_⟩
      walk_at "wh"
      refine ⟨g, c, b, 10, f.toNat, 8, ?_, ok, by omega, by omega, by omega, by omega, by omega, fun g c b ok => ?_⟩
      · rw [show ((f.toNat : Nat) : Int) = f by omega]
        rfl
      walk_at "wh"
      exact q
    · exact (by decide : 2 ≤ sizeLine)
  by_cases e : t4 = 6
  · rw [show (if true = true then !decide (t4 = 6) else decide (t4 = 6)) = false by simp [e]]
    walk_at "wh"
    exact tail g c b ok
  · rw [show (if true = true then !decide (t4 = 6) else decide (t4 = 6)) = true by simp [e]]
    walk_at "wh"
    exact q
  exact (by decide : 3 ≤ sizeLine)
theorem f_law {P : Program} {w : World} {K : Fg} {mg : Str → Option Value} {base : Heap} {f : Addr} {fd : FuncData} (g : Gs K mg) (h_law_cask : Has P w K mg base "_law_cask" ["script"] 1 sp_law_cask) (h_law_tap : Has P w K mg base "_law_tap" ["pool", "many"] 1 sp_law_tap) (h_law_holds : Has P w K mg base "_law_holds" ["cask", "many", "most", "least", "bound"] 11 sp_law_holds) (F : Fun K "law" "law" s_law f fd) : FnOk P w K mg base CX0 12 f fd ["script"] (SpOf K sp_law) :=
  fn_ok F sc_law [] (fun cdv A outer s H E hr => q_law g h_law_cask h_law_tap h_law_holds cdv A outer s H E hr) (by walk_at "len") (by walk_at "keep") m_law
theorem mono_law : sp_law.Mono := by walk_at "mono"

end K82
set_option Elab.async false
set_option linter.all false
set_option maxRecDepth 100000
set_option maxHeartbeats 1000000
set_option exponentiation.threshold 20000
set_option pp.deepTerms false
set_option pp.maxSteps 500
namespace K82
open PySem PySem.Spec PyProof.Rows L2 Pf

/-! ### what the top has written -/
theorem vals_two {a b : Int} {t0 t1 : Nat} : Vals [V.int a, V.int b] [Value.int a t0, Value.int b t1] := .cons ⟨t0, rfl⟩ (.cons ⟨t1, rfl⟩ .nil)
theorem glob2 {K : Fg} {h : Heap} {mg : Str → Option Value} (X : K.In h) (G : h.Ns mainGlobals mg) {x : Str} {t : Addr} {a b : Int} {t0 t1 n : Nat} {sl : Array (Option Value)} (e : PySem.W.nsIn K mainGlobals x = some (some (.ref t)))
    (l : K.lookup t = some ⟨.type "tuple", none, .seq #[.int a t0, .int b t1] n, sl⟩) : GlobD K mg x (.tuple [.int a, .int b]) :=
  ⟨.ref t, .ref t, PySem.W.mg_of X G e, rfl, .tup (.inr ⟨_, _, _, l, rfl, rfl, rfl, (by decide : 2 ≤ sizeLine), vals_two⟩) (.cons (.int a) (.cons (.int b) .nil))⟩
/-- no list is among the module's own things -/
def noList (K : Fg) : Bool := K.all fun p => !decide (p.2.cls = .type "list")
theorem no_list {K : Fg} (h : noList K = true) : ∀ {a : Addr} {o : Obj}, K.lookup a = some o → o.cls ≠ .type "list" := by
  unfold noList at h
  induction K with
  | nil => intro a o e; cases e
  | cons p K ih =>
    intro a o e
    rw [List.all_cons, Bool.and_eq_true] at h
    obtain ⟨b, ob⟩ := p
    rw [List.lookup_cons] at e
    cases q : (a == b) with
    | true =>
      rw [q] at e
      have eo : ob = o := Option.some.inj e
      subst eo
      intro z
      have := h.1
      simp [z] at this
    | false =>
      rw [q] at e
      exact ih h.2 e
theorem script_sp {K : Fg} (nl : noList K = true) {H : Hp} {a : Addr} {ns : List Int} (hl : ns.length ≤ 63) (hS : SqL K H a (ns.map V.int)) : SpOf K sp_law [.ref a] H (fun v _ => v = .bl true) fun _ _ _ => False := by
  rcases hS with hS | ⟨o, its, n, h1, h2, _⟩
  · refine ⟨[.d (.list (zD ns))], H, fun _ => none, ⟨[], .one (fp1 := []) ⟨.lst hS (ints_rps ns), rfl⟩ .nil, fun _ _ z => z, fun _ _ z => (nomatch z), fun _ _ => rfl, List.nodup_nil, (by simp), (by simp)⟩, ns, rfl, hl, fun v G' H' _ r => ?_⟩
    obtain ⟨fp, fpv, _, ⟨h, _⟩, _⟩ := r
    cases h
    rfl
  · exact absurd h2 (no_list nl h1)
theorem walk_mine {l : PySem.W.OpenLaw} {n k : Nat} {q : Program} {loose : List Str} {XP : (Str → Option Value) → Heap → Prop} {YP : World → Heap → Prop} {d : DefRec} {K : Params → Fg} {x : Str}
    (hn : l.most = some n) (hn2 : n ≤ sizeLine) (h63 : n ≤ 63) (hdf : d.params.defaults = []) (hr : Room k callerA) (hY : ∀ (w : World) (h : Heap), YP w h → (K w.params).In h) (nl : ∀ p, noList (K p) = true)
    (F : ∀ (w : World) (mg : Str → Option Value) (fa : Addr) (h : Heap), (K w.params).In h → h.Ns mainGlobals mg → mg d.name = some (.ref fa) →
      ∃ fd : FuncData, (∀ (s : Shared) (u : Value), BindsTo s fd ⟨[u], []⟩ [(x, u)]) ∧ ∀ base : Heap, (K w.params).In base → base.Ns mainGlobals mg → FnOk l.prog w (K w.params) mg base CX0 k fa fd [x] (SpOf (K w.params) sp_law)) :
    PySem.W.WalkO q loose XP YP l.row.toRowW d [] (fun f vs => PySem.call f vs) :=
  walk_of (K := K) (CX := fun _ => CX0) (sp := fun w => SpOf (K w.params) sp_law) hn hn2 hdf hr hY F (fun w H a ns hl _ hS => script_sp (nl _) (Nat.le_trans hl h63) hS) fun _ _ _ _ _ h => h
theorem all_mk {l : PySem.W.OpenLaw} {w : World} {K : Fg} {h : Heap} {mg : Str → Option Value} {fa tz to : Addr} {tn1 tn2 tn3 tn4 ts1 ts2 : Nat} {tl1 tl2 : Array (Option Value)} (X : K.In h) (G : h.Ns mainGlobals mg) (hfa : mg "law" = some (.ref fa))
    {f0 : Addr} {od0 an0 : Option Addr} {sl0 : Array (Option Value)} {oc0 kV0 dc0 pm0 cd0 ct0 : Value}
    {f1 : Addr} {od1 an1 : Option Addr} {sl1 : Array (Option Value)} {oc1 kV1 dc1 pm1 cd1 ct1 : Value}
    {f2 : Addr} {od2 an2 : Option Addr} {sl2 : Array (Option Value)} {oc2 kV2 dc2 pm2 cd2 ct2 : Value}
    {f3 : Addr} {od3 an3 : Option Addr} {sl3 : Array (Option Value)} {oc3 kV3 dc3 pm3 cd3 ct3 : Value}
    {f4 : Addr} {od4 an4 : Option Addr} {sl4 : Array (Option Value)} {oc4 kV4 dc4 pm4 cd4 ct4 : Value}
    {f5 : Addr} {od5 an5 : Option Addr} {sl5 : Array (Option Value)} {oc5 kV5 dc5 pm5 cd5 ct5 : Value}
    {f6 : Addr} {od6 an6 : Option Addr} {sl6 : Array (Option Value)} {oc6 kV6 dc6 pm6 cd6 ct6 : Value}
    {f7 : Addr} {od7 an7 : Option Addr} {sl7 : Array (Option Value)} {oc7 kV7 dc7 pm7 cd7 ct7 : Value}
    {f8 : Addr} {od8 an8 : Option Addr} {sl8 : Array (Option Value)} {oc8 kV8 dc8 pm8 cd8 ct8 : Value}
    {f9 : Addr} {od9 an9 : Option Addr} {sl9 : Array (Option Value)} {oc9 kV9 dc9 pm9 cd9 ct9 : Value}
    {f10 : Addr} {od10 an10 : Option Addr} {sl10 : Array (Option Value)} {oc10 kV10 dc10 pm10 cd10 ct10 : Value}
    {f11 : Addr} {od11 an11 : Option Addr} {sl11 : Array (Option Value)} {oc11 kV11 dc11 pm11 cd11 ct11 : Value}
    {f12 : Addr} {od12 an12 : Option Addr} {sl12 : Array (Option Value)} {oc12 kV12 dc12 pm12 cd12 ct12 : Value}
    {f13 : Addr} {od13 an13 : Option Addr} {sl13 : Array (Option Value)} {oc13 kV13 dc13 pm13 cd13 ct13 : Value}
    {f14 : Addr} {od14 an14 : Option Addr} {sl14 : Array (Option Value)} {oc14 kV14 dc14 pm14 cd14 ct14 : Value}
    {f15 : Addr} {od15 an15 : Option Addr} {sl15 : Array (Option Value)} {oc15 kV15 dc15 pm15 cd15 ct15 : Value}
    {f16 : Addr} {od16 an16 : Option Addr} {sl16 : Array (Option Value)} {oc16 kV16 dc16 pm16 cd16 ct16 : Value}
    {f17 : Addr} {od17 an17 : Option Addr} {sl17 : Array (Option Value)} {oc17 kV17 dc17 pm17 cd17 ct17 : Value}
    {f18 : Addr} {od18 an18 : Option Addr} {sl18 : Array (Option Value)} {oc18 kV18 dc18 pm18 cd18 ct18 : Value}
    {f19 : Addr} {od19 an19 : Option Addr} {sl19 : Array (Option Value)} {oc19 kV19 dc19 pm19 cd19 ct19 : Value}
    {f20 : Addr} {od20 an20 : Option Addr} {sl20 : Array (Option Value)} {oc20 kV20 dc20 pm20 cd20 ct20 : Value}
    {f21 : Addr} {od21 an21 : Option Addr} {sl21 : Array (Option Value)} {oc21 kV21 dc21 pm21 cd21 ct21 : Value}
    {f22 : Addr} {od22 an22 : Option Addr} {sl22 : Array (Option Value)} {oc22 kV22 dc22 pm22 cd22 ct22 : Value}
    {f23 : Addr} {od23 an23 : Option Addr} {sl23 : Array (Option Value)} {oc23 kV23 dc23 pm23 cd23 ct23 : Value}
    {f24 : Addr} {od24 an24 : Option Addr} {sl24 : Array (Option Value)} {oc24 kV24 dc24 pm24 cd24 ct24 : Value}
    {f25 : Addr} {od25 an25 : Option Addr} {sl25 : Array (Option Value)} {oc25 kV25 dc25 pm25 cd25 ct25 : Value}
    {f26 : Addr} {od26 an26 : Option Addr} {sl26 : Array (Option Value)} {oc26 kV26 dc26 pm26 cd26 ct26 : Value}
    {f27 : Addr} {od27 an27 : Option Addr} {sl27 : Array (Option Value)} {oc27 kV27 dc27 pm27 cd27 ct27 : Value}
    {f28 : Addr} {od28 an28 : Option Addr} {sl28 : Array (Option Value)} {oc28 kV28 dc28 pm28 cd28 ct28 : Value}
    {f29 : Addr} {od29 an29 : Option Addr} {sl29 : Array (Option Value)} {oc29 kV29 dc29 pm29 cd29 ct29 : Value}
    {f30 : Addr} {od30 an30 : Option Addr} {sl30 : Array (Option Value)} {oc30 kV30 dc30 pm30 cd30 ct30 : Value}
    {f31 : Addr} {od31 an31 : Option Addr} {sl31 : Array (Option Value)} {oc31 kV31 dc31 pm31 cd31 ct31 : Value}
    {f32 : Addr} {od32 an32 : Option Addr} {sl32 : Array (Option Value)} {oc32 kV32 dc32 pm32 cd32 ct32 : Value}
    {f33 : Addr} {od33 an33 : Option Addr} {sl33 : Array (Option Value)} {oc33 kV33 dc33 pm33 cd33 ct33 : Value}
    {f34 : Addr} {od34 an34 : Option Addr} {sl34 : Array (Option Value)} {oc34 kV34 dc34 pm34 cd34 ct34 : Value}
    {f35 : Addr} {od35 an35 : Option Addr} {sl35 : Array (Option Value)} {oc35 kV35 dc35 pm35 cd35 ct35 : Value}
    {f36 : Addr} {od36 an36 : Option Addr} {sl36 : Array (Option Value)} {oc36 kV36 dc36 pm36 cd36 ct36 : Value}
    {f37 : Addr} {od37 an37 : Option Addr} {sl37 : Array (Option Value)} {oc37 kV37 dc37 pm37 cd37 ct37 : Value}
    {f38 : Addr} {od38 an38 : Option Addr} {sl38 : Array (Option Value)} {oc38 kV38 dc38 pm38 cd38 ct38 : Value}
    {f39 : Addr} {od39 an39 : Option Addr} {sl39 : Array (Option Value)} {oc39 kV39 dc39 pm39 cd39 ct39 : Value}
    {f40 : Addr} {od40 an40 : Option Addr} {sl40 : Array (Option Value)} {oc40 kV40 dc40 pm40 cd40 ct40 : Value}
    {f41 : Addr} {od41 an41 : Option Addr} {sl41 : Array (Option Value)} {oc41 kV41 dc41 pm41 cd41 ct41 : Value}
    {f42 : Addr} {od42 an42 : Option Addr} {sl42 : Array (Option Value)} {oc42 kV42 dc42 pm42 cd42 ct42 : Value}
    {f43 : Addr} {od43 an43 : Option Addr} {sl43 : Array (Option Value)} {oc43 kV43 dc43 pm43 cd43 ct43 : Value}
    {f44 : Addr} {od44 an44 : Option Addr} {sl44 : Array (Option Value)} {oc44 kV44 dc44 pm44 cd44 ct44 : Value}
    {f45 : Addr} {od45 an45 : Option Addr} {sl45 : Array (Option Value)} {oc45 kV45 dc45 pm45 cd45 ct45 : Value}
    {f46 : Addr} {od46 an46 : Option Addr} {sl46 : Array (Option Value)} {oc46 kV46 dc46 pm46 cd46 ct46 : Value}
    {f47 : Addr} {od47 an47 : Option Addr} {sl47 : Array (Option Value)} {oc47 kV47 dc47 pm47 cd47 ct47 : Value}
    {f48 : Addr} {od48 an48 : Option Addr} {sl48 : Array (Option Value)} {oc48 kV48 dc48 pm48 cd48 ct48 : Value}
    {f49 : Addr} {od49 an49 : Option Addr} {sl49 : Array (Option Value)} {oc49 kV49 dc49 pm49 cd49 ct49 : Value}
    {f50 : Addr} {od50 an50 : Option Addr} {sl50 : Array (Option Value)} {oc50 kV50 dc50 pm50 cd50 ct50 : Value}
    {f51 : Addr} {od51 an51 : Option Addr} {sl51 : Array (Option Value)} {oc51 kV51 dc51 pm51 cd51 ct51 : Value}
    {f52 : Addr} {od52 an52 : Option Addr} {sl52 : Array (Option Value)} {oc52 kV52 dc52 pm52 cd52 ct52 : Value}
    {f53 : Addr} {od53 an53 : Option Addr} {sl53 : Array (Option Value)} {oc53 kV53 dc53 pm53 cd53 ct53 : Value}
    {f54 : Addr} {od54 an54 : Option Addr} {sl54 : Array (Option Value)} {oc54 kV54 dc54 pm54 cd54 ct54 : Value}
    {f55 : Addr} {od55 an55 : Option Addr} {sl55 : Array (Option Value)} {oc55 kV55 dc55 pm55 cd55 ct55 : Value}
    {f56 : Addr} {od56 an56 : Option Addr} {sl56 : Array (Option Value)} {oc56 kV56 dc56 pm56 cd56 ct56 : Value}
    (a0 : PySem.W.nsIn K mainGlobals "quotient_of" = some (some (.ref f0))) (l0 : K.lookup f0 = some ⟨oc0, od0, .func (PySem.W.fnOf "quotient_of" "quotient_of" (defArgs s_quotient_of) (defBody s_quotient_of) (defScope s_quotient_of) .none kV0 dc0 pm0 an0 cd0 ct0), sl0⟩) (c0 : PySem.W.codeIn K cd0 "quotient_of" = true) (k0 : PySem.W.keepIn K (.ref f0) = true)
    (a1 : PySem.W.nsIn K mainGlobals "plus_of" = some (some (.ref f1))) (l1 : K.lookup f1 = some ⟨oc1, od1, .func (PySem.W.fnOf "plus_of" "plus_of" (defArgs s_plus_of) (defBody s_plus_of) (defScope s_plus_of) .none kV1 dc1 pm1 an1 cd1 ct1), sl1⟩) (c1 : PySem.W.codeIn K cd1 "plus_of" = true) (k1 : PySem.W.keepIn K (.ref f1) = true)
    (a2 : PySem.W.nsIn K mainGlobals "less_of" = some (some (.ref f2))) (l2 : K.lookup f2 = some ⟨oc2, od2, .func (PySem.W.fnOf "less_of" "less_of" (defArgs s_less_of) (defBody s_less_of) (defScope s_less_of) .none kV2 dc2 pm2 an2 cd2 ct2), sl2⟩) (c2 : PySem.W.codeIn K cd2 "less_of" = true) (k2 : PySem.W.keepIn K (.ref f2) = true)
    (a3 : PySem.W.nsIn K mainGlobals "times_of" = some (some (.ref f3))) (l3 : K.lookup f3 = some ⟨oc3, od3, .func (PySem.W.fnOf "times_of" "times_of" (defArgs s_times_of) (defBody s_times_of) (defScope s_times_of) .none kV3 dc3 pm3 an3 cd3 ct3), sl3⟩) (c3 : PySem.W.codeIn K cd3 "times_of" = true) (k3 : PySem.W.keepIn K (.ref f3) = true)
    (a4 : PySem.W.nsIn K mainGlobals "over_of" = some (some (.ref f4))) (l4 : K.lookup f4 = some ⟨oc4, od4, .func (PySem.W.fnOf "over_of" "over_of" (defArgs s_over_of) (defBody s_over_of) (defScope s_over_of) .none kV4 dc4 pm4 an4 cd4 ct4), sl4⟩) (c4 : PySem.W.codeIn K cd4 "over_of" = true) (k4 : PySem.W.keepIn K (.ref f4) = true)
    (a5 : PySem.W.nsIn K mainGlobals "whole" = some (some (.ref f5))) (l5 : K.lookup f5 = some ⟨oc5, od5, .func (PySem.W.fnOf "whole" "whole" (defArgs s_whole) (defBody s_whole) (defScope s_whole) .none kV5 dc5 pm5 an5 cd5 ct5), sl5⟩) (c5 : PySem.W.codeIn K cd5 "whole" = true) (k5 : PySem.W.keepIn K (.ref f5) = true)
    (a6 : PySem.W.nsIn K mainGlobals "scaled_by" = some (some (.ref f6))) (l6 : K.lookup f6 = some ⟨oc6, od6, .func (PySem.W.fnOf "scaled_by" "scaled_by" (defArgs s_scaled_by) (defBody s_scaled_by) (defScope s_scaled_by) .none kV6 dc6 pm6 an6 cd6 ct6), sl6⟩) (c6 : PySem.W.codeIn K cd6 "scaled_by" = true) (k6 : PySem.W.keepIn K (.ref f6) = true)
    (a7 : PySem.W.nsIn K mainGlobals "lead_row" = some (some (.ref f7))) (l7 : K.lookup f7 = some ⟨oc7, od7, .func (PySem.W.fnOf "lead_row" "lead_row" (defArgs s_lead_row) (defBody s_lead_row) (defScope s_lead_row) .none kV7 dc7 pm7 an7 cd7 ct7), sl7⟩) (c7 : PySem.W.codeIn K cd7 "lead_row" = true) (k7 : PySem.W.keepIn K (.ref f7) = true)
    (a8 : PySem.W.nsIn K mainGlobals "divided" = some (some (.ref f8))) (l8 : K.lookup f8 = some ⟨oc8, od8, .func (PySem.W.fnOf "divided" "divided" (defArgs s_divided) (defBody s_divided) (defScope s_divided) .none kV8 dc8 pm8 an8 cd8 ct8), sl8⟩) (c8 : PySem.W.codeIn K cd8 "divided" = true) (k8 : PySem.W.keepIn K (.ref f8) = true)
    (a9 : PySem.W.nsIn K mainGlobals "cleared" = some (some (.ref f9))) (l9 : K.lookup f9 = some ⟨oc9, od9, .func (PySem.W.fnOf "cleared" "cleared" (defArgs s_cleared) (defBody s_cleared) (defScope s_cleared) .none kV9 dc9 pm9 an9 cd9 ct9), sl9⟩) (c9 : PySem.W.codeIn K cd9 "cleared" = true) (k9 : PySem.W.keepIn K (.ref f9) = true)
    (a10 : PySem.W.nsIn K mainGlobals "reduced" = some (some (.ref f10))) (l10 : K.lookup f10 = some ⟨oc10, od10, .func (PySem.W.fnOf "reduced" "reduced" (defArgs s_reduced) (defBody s_reduced) (defScope s_reduced) .none kV10 dc10 pm10 an10 cd10 ct10), sl10⟩) (c10 : PySem.W.codeIn K cd10 "reduced" = true) (k10 : PySem.W.keepIn K (.ref f10) = true)
    (a11 : PySem.W.nsIn K mainGlobals "integer_row" = some (some (.ref f11))) (l11 : K.lookup f11 = some ⟨oc11, od11, .func (PySem.W.fnOf "integer_row" "integer_row" (defArgs s_integer_row) (defBody s_integer_row) (defScope s_integer_row) .none kV11 dc11 pm11 an11 cd11 ct11), sl11⟩) (c11 : PySem.W.codeIn K cd11 "integer_row" = true) (k11 : PySem.W.keepIn K (.ref f11) = true)
    (a12 : PySem.W.nsIn K mainGlobals "left_due" = some (some (.ref f12))) (l12 : K.lookup f12 = some ⟨oc12, od12, .func (PySem.W.fnOf "left_due" "left_due" (defArgs s_left_due) (defBody s_left_due) (defScope s_left_due) .none kV12 dc12 pm12 an12 cd12 ct12), sl12⟩) (c12 : PySem.W.codeIn K cd12 "left_due" = true) (k12 : PySem.W.keepIn K (.ref f12) = true)
    (a13 : PySem.W.nsIn K mainGlobals "open_rows" = some (some (.ref f13))) (l13 : K.lookup f13 = some ⟨oc13, od13, .func (PySem.W.fnOf "open_rows" "open_rows" (defArgs s_open_rows) (defBody s_open_rows) (defScope s_open_rows) .none kV13 dc13 pm13 an13 cd13 ct13), sl13⟩) (c13 : PySem.W.codeIn K cd13 "open_rows" = true) (k13 : PySem.W.keepIn K (.ref f13) = true)
    (a14 : PySem.W.nsIn K mainGlobals "free_moves" = some (some (.ref f14))) (l14 : K.lookup f14 = some ⟨oc14, od14, .func (PySem.W.fnOf "free_moves" "free_moves" (defArgs s_free_moves) (defBody s_free_moves) (defScope s_free_moves) .none kV14 dc14 pm14 an14 cd14 ct14), sl14⟩) (c14 : PySem.W.codeIn K cd14 "free_moves" = true) (k14 : PySem.W.keepIn K (.ref f14) = true)
    (a15 : PySem.W.nsIn K mainGlobals "plane_of" = some (some (.ref f15))) (l15 : K.lookup f15 = some ⟨oc15, od15, .func (PySem.W.fnOf "plane_of" "plane_of" (defArgs s_plane_of) (defBody s_plane_of) (defScope s_plane_of) .none kV15 dc15 pm15 an15 cd15 ct15), sl15⟩) (c15 : PySem.W.codeIn K cd15 "plane_of" = true) (k15 : PySem.W.keepIn K (.ref f15) = true)
    (a16 : PySem.W.nsIn K mainGlobals "whole_plane" = some (some (.ref f16))) (l16 : K.lookup f16 = some ⟨oc16, od16, .func (PySem.W.fnOf "whole_plane" "whole_plane" (defArgs s_whole_plane) (defBody s_whole_plane) (defScope s_whole_plane) .none kV16 dc16 pm16 an16 cd16 ct16), sl16⟩) (c16 : PySem.W.codeIn K cd16 "whole_plane" = true) (k16 : PySem.W.keepIn K (.ref f16) = true)
    (a17 : PySem.W.nsIn K mainGlobals "moved_far" = some (some (.ref f17))) (l17 : K.lookup f17 = some ⟨oc17, od17, .func (PySem.W.fnOf "moved_far" "moved_far" (defArgs s_moved_far) (defBody s_moved_far) (defScope s_moved_far) .none kV17 dc17 pm17 an17 cd17 ct17), sl17⟩) (c17 : PySem.W.codeIn K cd17 "moved_far" = true) (k17 : PySem.W.keepIn K (.ref f17) = true)
    (a18 : PySem.W.nsIn K mainGlobals "a_world" = some (some (.ref f18))) (l18 : K.lookup f18 = some ⟨oc18, od18, .func (PySem.W.fnOf "a_world" "a_world" (defArgs s_a_world) (defBody s_a_world) (defScope s_a_world) .none kV18 dc18 pm18 an18 cd18 ct18), sl18⟩) (c18 : PySem.W.codeIn K cd18 "a_world" = true) (k18 : PySem.W.keepIn K (.ref f18) = true)
    (a19 : PySem.W.nsIn K mainGlobals "need_world" = some (some (.ref f19))) (l19 : K.lookup f19 = some ⟨oc19, od19, .func (PySem.W.fnOf "need_world" "need_world" (defArgs s_need_world) (defBody s_need_world) (defScope s_need_world) .none kV19 dc19 pm19 an19 cd19 ct19), sl19⟩) (c19 : PySem.W.codeIn K cd19 "need_world" = true) (k19 : PySem.W.keepIn K (.ref f19) = true)
    (a20 : PySem.W.nsIn K mainGlobals "told_rows" = some (some (.ref f20))) (l20 : K.lookup f20 = some ⟨oc20, od20, .func (PySem.W.fnOf "told_rows" "told_rows" (defArgs s_told_rows) (defBody s_told_rows) (defScope s_told_rows) .none kV20 dc20 pm20 an20 cd20 ct20), sl20⟩) (c20 : PySem.W.codeIn K cd20 "told_rows" = true) (k20 : PySem.W.keepIn K (.ref f20) = true)
    (a21 : PySem.W.nsIn K mainGlobals "sum_of_row" = some (some (.ref f21))) (l21 : K.lookup f21 = some ⟨oc21, od21, .func (PySem.W.fnOf "sum_of_row" "sum_of_row" (defArgs s_sum_of_row) (defBody s_sum_of_row) (defScope s_sum_of_row) .none kV21 dc21 pm21 an21 cd21 ct21), sl21⟩) (c21 : PySem.W.codeIn K cd21 "sum_of_row" = true) (k21 : PySem.W.keepIn K (.ref f21) = true)
    (a22 : PySem.W.nsIn K mainGlobals "row_form_by" = some (some (.ref f22))) (l22 : K.lookup f22 = some ⟨oc22, od22, .func (PySem.W.fnOf "row_form_by" "row_form_by" (defArgs s_row_form_by) (defBody s_row_form_by) (defScope s_row_form_by) .none kV22 dc22 pm22 an22 cd22 ct22), sl22⟩) (c22 : PySem.W.codeIn K cd22 "row_form_by" = true) (k22 : PySem.W.keepIn K (.ref f22) = true)
    (a23 : PySem.W.nsIn K mainGlobals "row_form" = some (some (.ref f23))) (l23 : K.lookup f23 = some ⟨oc23, od23, .func (PySem.W.fnOf "row_form" "row_form" (defArgs s_row_form) (defBody s_row_form) (defScope s_row_form) .none kV23 dc23 pm23 an23 cd23 ct23), sl23⟩) (c23 : PySem.W.codeIn K cd23 "row_form" = true) (k23 : PySem.W.keepIn K (.ref f23) = true)
    (a24 : PySem.W.nsIn K mainGlobals "rank_of" = some (some (.ref f24))) (l24 : K.lookup f24 = some ⟨oc24, od24, .func (PySem.W.fnOf "rank_of" "rank_of" (defArgs s_rank_of) (defBody s_rank_of) (defScope s_rank_of) .none kV24 dc24 pm24 an24 cd24 ct24), sl24⟩) (c24 : PySem.W.codeIn K cd24 "rank_of" = true) (k24 : PySem.W.keepIn K (.ref f24) = true)
    (a25 : PySem.W.nsIn K mainGlobals "added_of" = some (some (.ref f25))) (l25 : K.lookup f25 = some ⟨oc25, od25, .func (PySem.W.fnOf "added_of" "added_of" (defArgs s_added_of) (defBody s_added_of) (defScope s_added_of) .none kV25 dc25 pm25 an25 cd25 ct25), sl25⟩) (c25 : PySem.W.codeIn K cd25 "added_of" = true) (k25 : PySem.W.keepIn K (.ref f25) = true)
    (a26 : PySem.W.nsIn K mainGlobals "keeps" = some (some (.ref f26))) (l26 : K.lookup f26 = some ⟨oc26, od26, .func (PySem.W.fnOf "keeps" "keeps" (defArgs s_keeps) (defBody s_keeps) (defScope s_keeps) .none kV26 dc26 pm26 an26 cd26 ct26), sl26⟩) (c26 : PySem.W.codeIn K cd26 "keeps" = true) (k26 : PySem.W.keepIn K (.ref f26) = true)
    (a27 : PySem.W.nsIn K mainGlobals "breaking_world" = some (some (.ref f27))) (l27 : K.lookup f27 = some ⟨oc27, od27, .func (PySem.W.fnOf "breaking_world" "breaking_world" (defArgs s_breaking_world) (defBody s_breaking_world) (defScope s_breaking_world) .none kV27 dc27 pm27 an27 cd27 ct27), sl27⟩) (c27 : PySem.W.codeIn K cd27 "breaking_world" = true) (k27 : PySem.W.keepIn K (.ref f27) = true)
    (a28 : PySem.W.nsIn K mainGlobals "world_of_one" = some (some (.ref f28))) (l28 : K.lookup f28 = some ⟨oc28, od28, .func (PySem.W.fnOf "world_of_one" "world_of_one" (defArgs s_world_of_one) (defBody s_world_of_one) (defScope s_world_of_one) .none kV28 dc28 pm28 an28 cd28 ct28), sl28⟩) (c28 : PySem.W.codeIn K cd28 "world_of_one" = true) (k28 : PySem.W.keepIn K (.ref f28) = true)
    (a29 : PySem.W.nsIn K mainGlobals "parting_world" = some (some (.ref f29))) (l29 : K.lookup f29 = some ⟨oc29, od29, .func (PySem.W.fnOf "parting_world" "parting_world" (defArgs s_parting_world) (defBody s_parting_world) (defScope s_parting_world) .none kV29 dc29 pm29 an29 cd29 ct29), sl29⟩) (c29 : PySem.W.codeIn K cd29 "parting_world" = true) (k29 : PySem.W.keepIn K (.ref f29) = true)
    (a30 : PySem.W.nsIn K mainGlobals "alike_books" = some (some (.ref f30))) (l30 : K.lookup f30 = some ⟨oc30, od30, .func (PySem.W.fnOf "alike_books" "alike_books" (defArgs s_alike_books) (defBody s_alike_books) (defScope s_alike_books) .none kV30 dc30 pm30 an30 cd30 ct30), sl30⟩) (c30 : PySem.W.codeIn K cd30 "alike_books" = true) (k30 : PySem.W.keepIn K (.ref f30) = true)
    (a31 : PySem.W.nsIn K mainGlobals "need_unlike" = some (some (.ref f31))) (l31 : K.lookup f31 = some ⟨oc31, od31, .func (PySem.W.fnOf "need_unlike" "need_unlike" (defArgs s_need_unlike) (defBody s_need_unlike) (defScope s_need_unlike) .none kV31 dc31 pm31 an31 cd31 ct31), sl31⟩) (c31 : PySem.W.codeIn K cd31 "need_unlike" = true) (k31 : PySem.W.keepIn K (.ref f31) = true)
    (a32 : PySem.W.nsIn K mainGlobals "without_sum" = some (some (.ref f32))) (l32 : K.lookup f32 = some ⟨oc32, od32, .func (PySem.W.fnOf "without_sum" "without_sum" (defArgs s_without_sum) (defBody s_without_sum) (defScope s_without_sum) .none kV32 dc32 pm32 an32 cd32 ct32), sl32⟩) (c32 : PySem.W.codeIn K cd32 "without_sum" = true) (k32 : PySem.W.keepIn K (.ref f32) = true)
    (a33 : PySem.W.nsIn K mainGlobals "with_figure" = some (some (.ref f33))) (l33 : K.lookup f33 = some ⟨oc33, od33, .func (PySem.W.fnOf "with_figure" "with_figure" (defArgs s_with_figure) (defBody s_with_figure) (defScope s_with_figure) .none kV33 dc33 pm33 an33 cd33 ct33), sl33⟩) (c33 : PySem.W.codeIn K cd33 "with_figure" = true) (k33 : PySem.W.keepIn K (.ref f33) = true)
    (a34 : PySem.W.nsIn K mainGlobals "renamed_book" = some (some (.ref f34))) (l34 : K.lookup f34 = some ⟨oc34, od34, .func (PySem.W.fnOf "renamed_book" "renamed_book" (defArgs s_renamed_book) (defBody s_renamed_book) (defScope s_renamed_book) .none kV34 dc34 pm34 an34 cd34 ct34), sl34⟩) (c34 : PySem.W.codeIn K cd34 "renamed_book" = true) (k34 : PySem.W.keepIn K (.ref f34) = true)
    (a35 : PySem.W.nsIn K mainGlobals "placed_parts" = some (some (.ref f35))) (l35 : K.lookup f35 = some ⟨oc35, od35, .func (PySem.W.fnOf "placed_parts" "placed_parts" (defArgs s_placed_parts) (defBody s_placed_parts) (defScope s_placed_parts) .none kV35 dc35 pm35 an35 cd35 ct35), sl35⟩) (c35 : PySem.W.codeIn K cd35 "placed_parts" = true) (k35 : PySem.W.keepIn K (.ref f35) = true)
    (a36 : PySem.W.nsIn K mainGlobals "joined_book" = some (some (.ref f36))) (l36 : K.lookup f36 = some ⟨oc36, od36, .func (PySem.W.fnOf "joined_book" "joined_book" (defArgs s_joined_book) (defBody s_joined_book) (defScope s_joined_book) .none kV36 dc36 pm36 an36 cd36 ct36), sl36⟩) (c36 : PySem.W.codeIn K cd36 "joined_book" = true) (k36 : PySem.W.keepIn K (.ref f36) = true)
    (a37 : PySem.W.nsIn K mainGlobals "hidden_book" = some (some (.ref f37))) (l37 : K.lookup f37 = some ⟨oc37, od37, .func (PySem.W.fnOf "hidden_book" "hidden_book" (defArgs s_hidden_book) (defBody s_hidden_book) (defScope s_hidden_book) .none kV37 dc37 pm37 an37 cd37 ct37), sl37⟩) (c37 : PySem.W.codeIn K cd37 "hidden_book" = true) (k37 : PySem.W.keepIn K (.ref f37) = true)
    (a38 : PySem.W.nsIn K mainGlobals "_law_cask" = some (some (.ref f38))) (l38 : K.lookup f38 = some ⟨oc38, od38, .func (PySem.W.fnOf "_law_cask" "_law_cask" (defArgs s_law_cask) (defBody s_law_cask) (defScope s_law_cask) .none kV38 dc38 pm38 an38 cd38 ct38), sl38⟩) (c38 : PySem.W.codeIn K cd38 "_law_cask" = true) (k38 : PySem.W.keepIn K (.ref f38) = true)
    (a39 : PySem.W.nsIn K mainGlobals "_law_tap" = some (some (.ref f39))) (l39 : K.lookup f39 = some ⟨oc39, od39, .func (PySem.W.fnOf "_law_tap" "_law_tap" (defArgs s_law_tap) (defBody s_law_tap) (defScope s_law_tap) .none kV39 dc39 pm39 an39 cd39 ct39), sl39⟩) (c39 : PySem.W.codeIn K cd39 "_law_tap" = true) (k39 : PySem.W.keepIn K (.ref f39) = true)
    (a40 : PySem.W.nsIn K mainGlobals "_law_whole" = some (some (.ref f40))) (l40 : K.lookup f40 = some ⟨oc40, od40, .func (PySem.W.fnOf "_law_whole" "_law_whole" (defArgs s_law_whole) (defBody s_law_whole) (defScope s_law_whole) .none kV40 dc40 pm40 an40 cd40 ct40), sl40⟩) (c40 : PySem.W.codeIn K cd40 "_law_whole" = true) (k40 : PySem.W.keepIn K (.ref f40) = true)
    (a41 : PySem.W.nsIn K mainGlobals "_law_same" = some (some (.ref f41))) (l41 : K.lookup f41 = some ⟨oc41, od41, .func (PySem.W.fnOf "_law_same" "_law_same" (defArgs s_law_same) (defBody s_law_same) (defScope s_law_same) .none kV41 dc41 pm41 an41 cd41 ct41), sl41⟩) (c41 : PySem.W.codeIn K cd41 "_law_same" = true) (k41 : PySem.W.keepIn K (.ref f41) = true)
    (a42 : PySem.W.nsIn K mainGlobals "_law_factor" = some (some (.ref f42))) (l42 : K.lookup f42 = some ⟨oc42, od42, .func (PySem.W.fnOf "_law_factor" "_law_factor" (defArgs s_law_factor) (defBody s_law_factor) (defScope s_law_factor) .none kV42 dc42 pm42 an42 cd42 ct42), sl42⟩) (c42 : PySem.W.codeIn K cd42 "_law_factor" = true) (k42 : PySem.W.keepIn K (.ref f42) = true)
    (a43 : PySem.W.nsIn K mainGlobals "_law_quotient" = some (some (.ref f43))) (l43 : K.lookup f43 = some ⟨oc43, od43, .func (PySem.W.fnOf "_law_quotient" "_law_quotient" (defArgs s_law_quotient) (defBody s_law_quotient) (defScope s_law_quotient) .none kV43 dc43 pm43 an43 cd43 ct43), sl43⟩) (c43 : PySem.W.codeIn K cd43 "_law_quotient" = true) (k43 : PySem.W.keepIn K (.ref f43) = true)
    (a44 : PySem.W.nsIn K mainGlobals "_law_added" = some (some (.ref f44))) (l44 : K.lookup f44 = some ⟨oc44, od44, .func (PySem.W.fnOf "_law_added" "_law_added" (defArgs s_law_added) (defBody s_law_added) (defScope s_law_added) .none kV44 dc44 pm44 an44 cd44 ct44), sl44⟩) (c44 : PySem.W.codeIn K cd44 "_law_added" = true) (k44 : PySem.W.keepIn K (.ref f44) = true)
    (a45 : PySem.W.nsIn K mainGlobals "_law_rid" = some (some (.ref f45))) (l45 : K.lookup f45 = some ⟨oc45, od45, .func (PySem.W.fnOf "_law_rid" "_law_rid" (defArgs s_law_rid) (defBody s_law_rid) (defScope s_law_rid) .none kV45 dc45 pm45 an45 cd45 ct45), sl45⟩) (c45 : PySem.W.codeIn K cd45 "_law_rid" = true) (k45 : PySem.W.keepIn K (.ref f45) = true)
    (a46 : PySem.W.nsIn K mainGlobals "_law_reduced" = some (some (.ref f46))) (l46 : K.lookup f46 = some ⟨oc46, od46, .func (PySem.W.fnOf "_law_reduced" "_law_reduced" (defArgs s_law_reduced) (defBody s_law_reduced) (defScope s_law_reduced) .none kV46 dc46 pm46 an46 cd46 ct46), sl46⟩) (c46 : PySem.W.codeIn K cd46 "_law_reduced" = true) (k46 : PySem.W.keepIn K (.ref f46) = true)
    (a47 : PySem.W.nsIn K mainGlobals "_law_line" = some (some (.ref f47))) (l47 : K.lookup f47 = some ⟨oc47, od47, .func (PySem.W.fnOf "_law_line" "_law_line" (defArgs s_law_line) (defBody s_law_line) (defScope s_law_line) .none kV47 dc47 pm47 an47 cd47 ct47), sl47⟩) (c47 : PySem.W.codeIn K cd47 "_law_line" = true) (k47 : PySem.W.keepIn K (.ref f47) = true)
    (a48 : PySem.W.nsIn K mainGlobals "_law_sum" = some (some (.ref f48))) (l48 : K.lookup f48 = some ⟨oc48, od48, .func (PySem.W.fnOf "_law_sum" "_law_sum" (defArgs s_law_sum) (defBody s_law_sum) (defScope s_law_sum) .none kV48 dc48 pm48 an48 cd48 ct48), sl48⟩) (c48 : PySem.W.codeIn K cd48 "_law_sum" = true) (k48 : PySem.W.keepIn K (.ref f48) = true)
    (a49 : PySem.W.nsIn K mainGlobals "_law_form" = some (some (.ref f49))) (l49 : K.lookup f49 = some ⟨oc49, od49, .func (PySem.W.fnOf "_law_form" "_law_form" (defArgs s_law_form) (defBody s_law_form) (defScope s_law_form) .none kV49 dc49 pm49 an49 cd49 ct49), sl49⟩) (c49 : PySem.W.codeIn K cd49 "_law_form" = true) (k49 : PySem.W.keepIn K (.ref f49) = true)
    (a50 : PySem.W.nsIn K mainGlobals "_law_figures" = some (some (.ref f50))) (l50 : K.lookup f50 = some ⟨oc50, od50, .func (PySem.W.fnOf "_law_figures" "_law_figures" (defArgs s_law_figures) (defBody s_law_figures) (defScope s_law_figures) .none kV50 dc50 pm50 an50 cd50 ct50), sl50⟩) (c50 : PySem.W.codeIn K cd50 "_law_figures" = true) (k50 : PySem.W.keepIn K (.ref f50) = true)
    (a51 : PySem.W.nsIn K mainGlobals "_law_drawn" = some (some (.ref f51))) (l51 : K.lookup f51 = some ⟨oc51, od51, .func (PySem.W.fnOf "_law_drawn" "_law_drawn" (defArgs s_law_drawn) (defBody s_law_drawn) (defScope s_law_drawn) .none kV51 dc51 pm51 an51 cd51 ct51), sl51⟩) (c51 : PySem.W.codeIn K cd51 "_law_drawn" = true) (k51 : PySem.W.keepIn K (.ref f51) = true)
    (a52 : PySem.W.nsIn K mainGlobals "_law_times" = some (some (.ref f52))) (l52 : K.lookup f52 = some ⟨oc52, od52, .func (PySem.W.fnOf "_law_times" "_law_times" (defArgs s_law_times) (defBody s_law_times) (defScope s_law_times) .none kV52 dc52 pm52 an52 cd52 ct52), sl52⟩) (c52 : PySem.W.codeIn K cd52 "_law_times" = true) (k52 : PySem.W.keepIn K (.ref f52) = true)
    (a53 : PySem.W.nsIn K mainGlobals "_law_mixed" = some (some (.ref f53))) (l53 : K.lookup f53 = some ⟨oc53, od53, .func (PySem.W.fnOf "_law_mixed" "_law_mixed" (defArgs s_law_mixed) (defBody s_law_mixed) (defScope s_law_mixed) .none kV53 dc53 pm53 an53 cd53 ct53), sl53⟩) (c53 : PySem.W.codeIn K cd53 "_law_mixed" = true) (k53 : PySem.W.keepIn K (.ref f53) = true)
    (a54 : PySem.W.nsIn K mainGlobals "_law_turned" = some (some (.ref f54))) (l54 : K.lookup f54 = some ⟨oc54, od54, .func (PySem.W.fnOf "_law_turned" "_law_turned" (defArgs s_law_turned) (defBody s_law_turned) (defScope s_law_turned) .none kV54 dc54 pm54 an54 cd54 ct54), sl54⟩) (c54 : PySem.W.codeIn K cd54 "_law_turned" = true) (k54 : PySem.W.keepIn K (.ref f54) = true)
    (a55 : PySem.W.nsIn K mainGlobals "_law_holds" = some (some (.ref f55))) (l55 : K.lookup f55 = some ⟨oc55, od55, .func (PySem.W.fnOf "_law_holds" "_law_holds" (defArgs s_law_holds) (defBody s_law_holds) (defScope s_law_holds) .none kV55 dc55 pm55 an55 cd55 ct55), sl55⟩) (c55 : PySem.W.codeIn K cd55 "_law_holds" = true) (k55 : PySem.W.keepIn K (.ref f55) = true)
    (a56 : PySem.W.nsIn K mainGlobals "law" = some (some (.ref f56))) (l56 : K.lookup f56 = some ⟨oc56, od56, .func (PySem.W.fnOf "law" "law" (defArgs s_law) (defBody s_law) (defScope s_law) .none kV56 dc56 pm56 an56 cd56 ct56), sl56⟩) (c56 : PySem.W.codeIn K cd56 "law" = true) (k56 : PySem.W.keepIn K (.ref f56) = true)
    (z_len : PySem.W.nsIn K mainGlobals "len" = some none)
    (z_int : PySem.W.nsIn K mainGlobals "int" = some none)
    (z_abs : PySem.W.nsIn K mainGlobals "abs" = some none)
    (z_tuple : PySem.W.nsIn K mainGlobals "tuple" = some none)
    (z_list : PySem.W.nsIn K mainGlobals "list" = some none)
    (z_max : PySem.W.nsIn K mainGlobals "max" = some none)
    (z_any : PySem.W.nsIn K mainGlobals "any" = some none)
    (z_all : PySem.W.nsIn K mainGlobals "all" = some none)
    (z_sorted : PySem.W.nsIn K mainGlobals "sorted" = some none)
    (z_str : PySem.W.nsIn K mainGlobals "str" = some none)
    (z_bool : PySem.W.nsIn K mainGlobals "bool" = some none)
    (z_set : PySem.W.nsIn K mainGlobals "set" = some none)
    (z_dict : PySem.W.nsIn K mainGlobals "dict" = some none)
    (z_isinstance : PySem.W.nsIn K mainGlobals "isinstance" = some none)
    (z_range : PySem.W.nsIn K mainGlobals "range" = some none)
    (z_zip : PySem.W.nsIn K mainGlobals "zip" = some none)
    (z_enumerate : PySem.W.nsIn K mainGlobals "enumerate" = some none)
    (z_gcd : PySem.W.nsIn K mainGlobals "gcd" = some (some (.builtin "math.gcd"))) (z_lcm : PySem.W.nsIn K mainGlobals "lcm" = some (some (.builtin "math.lcm")))
    (a_z : PySem.W.nsIn K mainGlobals "ZERO" = some (some (.ref tz))) (l_z : K.lookup tz = some ⟨.type "tuple", none, .seq #[.int 0 tn1, .int 1 tn2] ts1, tl1⟩)
    (a_o : PySem.W.nsIn K mainGlobals "ONE" = some (some (.ref to))) (l_o : K.lookup to = some ⟨.type "tuple", none, .seq #[.int 1 tn3, .int 1 tn4] ts2, tl2⟩) :
    ∃ fd : FuncData, (∀ (s : Shared) (v : Value), BindsTo s fd ⟨[v], []⟩ [("script", v)]) ∧ ∀ base : Heap, K.In base → base.Ns mainGlobals mg → FnOk l.prog w K mg base CX0 12 fa fd ["script"] (SpOf K sp_law) := by
  have e := hfa.symm.trans (PySem.W.mg_of X G a56)
  cases e
  have g : Gs K mg := { len := PySem.W.mg_none_of X G z_len, int := PySem.W.mg_none_of X G z_int, abs := PySem.W.mg_none_of X G z_abs, tuple := PySem.W.mg_none_of X G z_tuple, list := PySem.W.mg_none_of X G z_list, max := PySem.W.mg_none_of X G z_max, any := PySem.W.mg_none_of X G z_any, all := PySem.W.mg_none_of X G z_all, sorted := PySem.W.mg_none_of X G z_sorted, str := PySem.W.mg_none_of X G z_str, bool := PySem.W.mg_none_of X G z_bool, set := PySem.W.mg_none_of X G z_set, dict := PySem.W.mg_none_of X G z_dict, isinstance := PySem.W.mg_none_of X G z_isinstance, range := PySem.W.mg_none_of X G z_range, zip := PySem.W.mg_none_of X G z_zip, enumerate := PySem.W.mg_none_of X G z_enumerate, gcd := PySem.W.mg_of X G z_gcd, lcm := PySem.W.mg_of X G z_lcm, zero := glob2 X G a_z l_z, one := glob2 X G a_o l_o }
  refine ⟨PySem.W.fnOf "law" "law" (defArgs s_law) (defBody s_law) (defScope s_law) .none kV56 dc56 pm56 an56 cd56 ct56, fun s v => .of_eq rfl, fun base _ _ => ?_⟩
  have F0 := fun_mk (st := s_quotient_of) l0 c0 k0
  have h_quotient_of : Has l.prog w K mg base "quotient_of" ["number", "other"] 1 sp_quotient_of := ⟨⟨f0, _, PySem.W.mg_of X G a0, F0.kp, F0.binds (ps := ["number", "other"]) fun _ _ _ _ _ _ us hl => match us, hl with | [_, _], _ => rfl, f_quotient_of g F0⟩, mono_quotient_of⟩
  have F5 := fun_mk (st := s_whole) l5 c5 k5
  have h_whole : Has l.prog w K mg base "whole" ["number"] 1 sp_whole := ⟨⟨f5, _, PySem.W.mg_of X G a5, F5.kp, F5.binds (ps := ["number"]) fun _ _ _ _ _ _ us hl => match us, hl with | [_], _ => rfl, f_whole g F5⟩, mono_whole⟩
  have F7 := fun_mk (st := s_lead_row) l7 c7 k7
  have h_lead_row : Has l.prog w K mg base "lead_row" ["rows", "done", "column"] 1 sp_lead_row := ⟨⟨f7, _, PySem.W.mg_of X G a7, F7.kp, F7.binds (ps := ["rows", "done", "column"]) fun _ _ _ _ _ _ us hl => match us, hl with | [_, _, _], _ => rfl, f_lead_row g F7⟩, mono_lead_row⟩
  have F11 := fun_mk (st := s_integer_row) l11 c11 k11
  have h_integer_row : Has l.prog w K mg base "integer_row" ["row"] 1 sp_integer_row := ⟨⟨f11, _, PySem.W.mg_of X G a11, F11.kp, F11.binds (ps := ["row"]) fun _ _ _ _ _ _ us hl => match us, hl with | [_], _ => rfl, f_integer_row g F11⟩, mono_integer_row⟩
  have F31 := fun_mk (st := s_need_unlike) l31 c31 k31
  have h_need_unlike : Has l.prog w K mg base "need_unlike" ["names"] 1 sp_need_unlike := ⟨⟨f31, _, PySem.W.mg_of X G a31, F31.kp, F31.binds (ps := ["names"]) fun _ _ _ _ _ _ us hl => match us, hl with | [_], _ => rfl, f_need_unlike g F31⟩, mono_need_unlike⟩
  have F32 := fun_mk (st := s_without_sum) l32 c32 k32
  have h_without_sum : Has l.prog w K mg base "without_sum" ["book", "number"] 1 sp_without_sum := ⟨⟨f32, _, PySem.W.mg_of X G a32, F32.kp, F32.binds (ps := ["book", "number"]) fun _ _ _ _ _ _ us hl => match us, hl with | [_, _], _ => rfl, f_without_sum g F32⟩, mono_without_sum⟩
  have F35 := fun_mk (st := s_placed_parts) l35 c35 k35
  have h_placed_parts : Has l.prog w K mg base "placed_parts" ["parts", "places", "many"] 1 sp_placed_parts := ⟨⟨f35, _, PySem.W.mg_of X G a35, F35.kp, F35.binds (ps := ["parts", "places", "many"]) fun _ _ _ _ _ _ us hl => match us, hl with | [_, _, _], _ => rfl, f_placed_parts g F35⟩, mono_placed_parts⟩
  have F38 := fun_mk (st := s_law_cask) l38 c38 k38
  have h_law_cask : Has l.prog w K mg base "_law_cask" ["script"] 1 sp_law_cask := ⟨⟨f38, _, PySem.W.mg_of X G a38, F38.kp, F38.binds (ps := ["script"]) fun _ _ _ _ _ _ us hl => match us, hl with | [_], _ => rfl, f_law_cask g F38⟩, mono_law_cask⟩
  have F39 := fun_mk (st := s_law_tap) l39 c39 k39
  have h_law_tap : Has l.prog w K mg base "_law_tap" ["pool", "many"] 1 sp_law_tap := ⟨⟨f39, _, PySem.W.mg_of X G a39, F39.kp, F39.binds (ps := ["pool", "many"]) fun _ _ _ _ _ _ us hl => match us, hl with | [_, _], _ => rfl, f_law_tap g F39⟩, mono_law_tap⟩
  have F40 := fun_mk (st := s_law_whole) l40 c40 k40
  have h_law_whole : Has l.prog w K mg base "_law_whole" ["told"] 1 sp_law_whole := ⟨⟨f40, _, PySem.W.mg_of X G a40, F40.kp, F40.binds (ps := ["told"]) fun _ _ _ _ _ _ us hl => match us, hl with | [_], _ => rfl, f_law_whole g F40⟩, mono_law_whole⟩
  have F42 := fun_mk (st := s_law_factor) l42 c42 k42
  have h_law_factor : Has l.prog w K mg base "_law_factor" ["one", "two"] 1 sp_law_factor := ⟨⟨f42, _, PySem.W.mg_of X G a42, F42.kp, F42.binds (ps := ["one", "two"]) fun _ _ _ _ _ _ us hl => match us, hl with | [_, _], _ => rfl, f_law_factor g F42⟩, mono_law_factor⟩
  have F47 := fun_mk (st := s_law_line) l47 c47 k47
  have h_law_line : Has l.prog w K mg base "_law_line" ["row"] 1 sp_law_line := ⟨⟨f47, _, PySem.W.mg_of X G a47, F47.kp, F47.binds (ps := ["row"]) fun _ _ _ _ _ _ us hl => match us, hl with | [_], _ => rfl, f_law_line g F47⟩, mono_law_line⟩
  have F1 := fun_mk (st := s_plus_of) l1 c1 k1
  have h_plus_of : Has l.prog w K mg base "plus_of" ["one", "other"] 2 sp_plus_of := ⟨⟨f1, _, PySem.W.mg_of X G a1, F1.kp, F1.binds (ps := ["one", "other"]) fun _ _ _ _ _ _ us hl => match us, hl with | [_, _], _ => rfl, f_plus_of g h_quotient_of F1⟩, mono_plus_of⟩
  have F2 := fun_mk (st := s_less_of) l2 c2 k2
  have h_less_of : Has l.prog w K mg base "less_of" ["one", "other"] 2 sp_less_of := ⟨⟨f2, _, PySem.W.mg_of X G a2, F2.kp, F2.binds (ps := ["one", "other"]) fun _ _ _ _ _ _ us hl => match us, hl with | [_, _], _ => rfl, f_less_of g h_quotient_of F2⟩, mono_less_of⟩
  have F3 := fun_mk (st := s_times_of) l3 c3 k3
  have h_times_of : Has l.prog w K mg base "times_of" ["one", "other"] 2 sp_times_of := ⟨⟨f3, _, PySem.W.mg_of X G a3, F3.kp, F3.binds (ps := ["one", "other"]) fun _ _ _ _ _ _ us hl => match us, hl with | [_, _], _ => rfl, f_times_of g h_quotient_of F3⟩, mono_times_of⟩
  have F4 := fun_mk (st := s_over_of) l4 c4 k4
  have h_over_of : Has l.prog w K mg base "over_of" ["one", "other"] 2 sp_over_of := ⟨⟨f4, _, PySem.W.mg_of X G a4, F4.kp, F4.binds (ps := ["one", "other"]) fun _ _ _ _ _ _ us hl => match us, hl with | [_, _], _ => rfl, f_over_of g h_quotient_of F4⟩, mono_over_of⟩
  have F6 := fun_mk (st := s_scaled_by) l6 c6 k6
  have h_scaled_by : Has l.prog w K mg base "scaled_by" ["number", "one"] 2 sp_scaled_by := ⟨⟨f6, _, PySem.W.mg_of X G a6, F6.kp, F6.binds (ps := ["number", "one"]) fun _ _ _ _ _ _ us hl => match us, hl with | [_, _], _ => rfl, f_scaled_by g h_quotient_of F6⟩, mono_scaled_by⟩
  have F20 := fun_mk (st := s_told_rows) l20 c20 k20
  have h_told_rows : Has l.prog w K mg base "told_rows" ["book"] 2 sp_told_rows := ⟨⟨f20, _, PySem.W.mg_of X G a20, F20.kp, F20.binds (ps := ["book"]) fun _ _ _ _ _ _ us hl => match us, hl with | [_], _ => rfl, f_told_rows g h_whole F20⟩, mono_told_rows⟩
  have F33 := fun_mk (st := s_with_figure) l33 c33 k33
  have h_with_figure : Has l.prog w K mg base "with_figure" ["book", "name"] 2 sp_with_figure := ⟨⟨f33, _, PySem.W.mg_of X G a33, F33.kp, F33.binds (ps := ["book", "name"]) fun _ _ _ _ _ _ us hl => match us, hl with | [_, _], _ => rfl, f_with_figure g h_need_unlike F33⟩, mono_with_figure⟩
  have F34 := fun_mk (st := s_renamed_book) l34 c34 k34
  have h_renamed_book : Has l.prog w K mg base "renamed_book" ["book", "pairs"] 2 sp_renamed_book := ⟨⟨f34, _, PySem.W.mg_of X G a34, F34.kp, F34.binds (ps := ["book", "pairs"]) fun _ _ _ _ _ _ us hl => match us, hl with | [_, _], _ => rfl, f_renamed_book g h_need_unlike F34⟩, mono_renamed_book⟩
  have F36 := fun_mk (st := s_joined_book) l36 c36 k36
  have h_joined_book : Has l.prog w K mg base "joined_book" ["one", "other"] 2 sp_joined_book := ⟨⟨f36, _, PySem.W.mg_of X G a36, F36.kp, F36.binds (ps := ["one", "other"]) fun _ _ _ _ _ _ us hl => match us, hl with | [_, _], _ => rfl, f_joined_book g h_placed_parts F36⟩, mono_joined_book⟩
  have F41 := fun_mk (st := s_law_same) l41 c41 k41
  have h_law_same : Has l.prog w K mg base "_law_same" ["told", "due"] 2 sp_law_same := ⟨⟨f41, _, PySem.W.mg_of X G a41, F41.kp, F41.binds (ps := ["told", "due"]) fun _ _ _ _ _ _ us hl => match us, hl with | [_, _], _ => rfl, f_law_same g h_law_whole F41⟩, mono_law_same⟩
  have F43 := fun_mk (st := s_law_quotient) l43 c43 k43
  have h_law_quotient : Has l.prog w K mg base "_law_quotient" ["top", "bottom"] 2 sp_law_quotient := ⟨⟨f43, _, PySem.W.mg_of X G a43, F43.kp, F43.binds (ps := ["top", "bottom"]) fun _ _ _ _ _ _ us hl => match us, hl with | [_, _], _ => rfl, f_law_quotient g h_law_factor F43⟩, mono_law_quotient⟩
  have F45 := fun_mk (st := s_law_rid) l45 c45 k45
  have h_law_rid : Has l.prog w K mg base "_law_rid" ["line", "lead", "spot"] 2 sp_law_rid := ⟨⟨f45, _, PySem.W.mg_of X G a45, F45.kp, F45.binds (ps := ["line", "lead", "spot"]) fun _ _ _ _ _ _ us hl => match us, hl with | [_, _, _], _ => rfl, f_law_rid g h_law_factor F45⟩, mono_law_rid⟩
  have F50 := fun_mk (st := s_law_figures) l50 c50 k50
  have h_law_figures : Has l.prog w K mg base "_law_figures" ["cask", "many"] 2 sp_law_figures := ⟨⟨f50, _, PySem.W.mg_of X G a50, F50.kp, F50.binds (ps := ["cask", "many"]) fun _ _ _ _ _ _ us hl => match us, hl with | [_, _], _ => rfl, f_law_figures g h_law_tap F50⟩, mono_law_figures⟩
  have F54 := fun_mk (st := s_law_turned) l54 c54 k54
  have h_law_turned : Has l.prog w K mg base "_law_turned" ["cask", "book"] 2 sp_law_turned := ⟨⟨f54, _, PySem.W.mg_of X G a54, F54.kp, F54.binds (ps := ["cask", "book"]) fun _ _ _ _ _ _ us hl => match us, hl with | [_, _], _ => rfl, f_law_turned g h_law_tap F54⟩, mono_law_turned⟩
  have F8 := fun_mk (st := s_divided) l8 c8 k8
  have h_divided : Has l.prog w K mg base "divided" ["row", "lead"] 3 sp_divided := ⟨⟨f8, _, PySem.W.mg_of X G a8, F8.kp, F8.binds (ps := ["row", "lead"]) fun _ _ _ _ _ _ us hl => match us, hl with | [_, _], _ => rfl, f_divided g h_over_of F8⟩, mono_divided⟩
  have F9 := fun_mk (st := s_cleared) l9 c9 k9
  have h_cleared : Has l.prog w K mg base "cleared" ["row", "lead", "column"] 3 sp_cleared := ⟨⟨f9, _, PySem.W.mg_of X G a9, F9.kp, F9.binds (ps := ["row", "lead", "column"]) fun _ _ _ _ _ _ us hl => match us, hl with | [_, _, _], _ => rfl, f_cleared g h_less_of h_times_of F9⟩, mono_cleared⟩
  have F12 := fun_mk (st := s_left_due) l12 c12 k12
  have h_left_due : Has l.prog w K mg base "left_due" ["row", "free", "worths"] 3 sp_left_due := ⟨⟨f12, _, PySem.W.mg_of X G a12, F12.kp, F12.binds (ps := ["row", "free", "worths"]) fun _ _ _ _ _ _ us hl => match us, hl with | [_, _, _], _ => rfl, f_left_due g h_less_of h_scaled_by F12⟩, mono_left_due⟩
  have F14 := fun_mk (st := s_free_moves) l14 c14 k14
  have h_free_moves : Has l.prog w K mg base "free_moves" ["rows", "leads", "free", "many"] 3 sp_free_moves := ⟨⟨f14, _, PySem.W.mg_of X G a14, F14.kp, F14.binds (ps := ["rows", "leads", "free", "many"]) fun _ _ _ _ _ _ us hl => match us, hl with | [_, _, _, _], _ => rfl, f_free_moves g h_less_of F14⟩, mono_free_moves⟩
  have F17 := fun_mk (st := s_moved_far) l17 c17 k17
  have h_moved_far : Has l.prog w K mg base "moved_far" ["world", "move"] 3 sp_moved_far := ⟨⟨f17, _, PySem.W.mg_of X G a17, F17.kp, F17.binds (ps := ["world", "move"]) fun _ _ _ _ _ _ us hl => match us, hl with | [_, _], _ => rfl, f_moved_far g h_plus_of F17⟩, mono_moved_far⟩
  have F21 := fun_mk (st := s_sum_of_row) l21 c21 k21
  have h_sum_of_row : Has l.prog w K mg base "sum_of_row" ["row"] 3 sp_sum_of_row := ⟨⟨f21, _, PySem.W.mg_of X G a21, F21.kp, F21.binds (ps := ["row"]) fun _ _ _ _ _ _ us hl => match us, hl with | [_], _ => rfl, f_sum_of_row g h_quotient_of h_times_of h_integer_row F21⟩, mono_sum_of_row⟩
  have F25 := fun_mk (st := s_added_of) l25 c25 k25
  have h_added_of : Has l.prog w K mg base "added_of" ["parts", "worths"] 3 sp_added_of := ⟨⟨f25, _, PySem.W.mg_of X G a25, F25.kp, F25.binds (ps := ["parts", "worths"]) fun _ _ _ _ _ _ us hl => match us, hl with | [_, _], _ => rfl, f_added_of g h_plus_of h_scaled_by F25⟩, mono_added_of⟩
  have F44 := fun_mk (st := s_law_added) l44 c44 k44
  have h_law_added : Has l.prog w K mg base "_law_added" ["parts", "quotients"] 3 sp_law_added := ⟨⟨f44, _, PySem.W.mg_of X G a44, F44.kp, F44.binds (ps := ["parts", "quotients"]) fun _ _ _ _ _ _ us hl => match us, hl with | [_, _], _ => rfl, f_law_added g h_law_quotient F44⟩, mono_law_added⟩
  have F46 := fun_mk (st := s_law_reduced) l46 c46 k46
  have h_law_reduced : Has l.prog w K mg base "_law_reduced" ["lines", "many"] 3 sp_law_reduced := ⟨⟨f46, _, PySem.W.mg_of X G a46, F46.kp, F46.binds (ps := ["lines", "many"]) fun _ _ _ _ _ _ us hl => match us, hl with | [_, _], _ => rfl, f_law_reduced g h_law_rid F46⟩, mono_law_reduced⟩
  have F48 := fun_mk (st := s_law_sum) l48 c48 k48
  have h_law_sum : Has l.prog w K mg base "_law_sum" ["line"] 3 sp_law_sum := ⟨⟨f48, _, PySem.W.mg_of X G a48, F48.kp, F48.binds (ps := ["line"]) fun _ _ _ _ _ _ us hl => match us, hl with | [_], _ => rfl, f_law_sum g h_law_factor h_law_quotient F48⟩, mono_law_sum⟩
  have F10 := fun_mk (st := s_reduced) l10 c10 k10
  have h_reduced : Has l.prog w K mg base "reduced" ["rows", "columns"] 4 sp_reduced := ⟨⟨f10, _, PySem.W.mg_of X G a10, F10.kp, F10.binds (ps := ["rows", "columns"]) fun _ _ _ _ _ _ us hl => match us, hl with | [_, _], _ => rfl, f_reduced g h_lead_row h_divided h_cleared F10⟩, mono_reduced⟩
  have F13 := fun_mk (st := s_open_rows) l13 c13 k13
  have h_open_rows : Has l.prog w K mg base "open_rows" ["book", "free", "worths"] 4 sp_open_rows := ⟨⟨f13, _, PySem.W.mg_of X G a13, F13.kp, F13.binds (ps := ["book", "free", "worths"]) fun _ _ _ _ _ _ us hl => match us, hl with | [_, _, _], _ => rfl, f_open_rows g h_whole h_left_due F13⟩, mono_open_rows⟩
  have F26 := fun_mk (st := s_keeps) l26 c26 k26
  have h_keeps : Has l.prog w K mg base "keeps" ["row", "worths"] 4 sp_keeps := ⟨⟨f26, _, PySem.W.mg_of X G a26, F26.kp, F26.binds (ps := ["row", "worths"]) fun _ _ _ _ _ _ us hl => match us, hl with | [_, _], _ => rfl, f_keeps g h_added_of F26⟩, mono_keeps⟩
  have F49 := fun_mk (st := s_law_form) l49 c49 k49
  have h_law_form : Has l.prog w K mg base "_law_form" ["book"] 4 sp_law_form := ⟨⟨f49, _, PySem.W.mg_of X G a49, F49.kp, F49.binds (ps := ["book"]) fun _ _ _ _ _ _ us hl => match us, hl with | [_], _ => rfl, f_law_form g h_law_reduced h_law_line h_law_sum F49⟩, mono_law_form⟩
  have F51 := fun_mk (st := s_law_drawn) l51 c51 k51
  have h_law_drawn : Has l.prog w K mg base "_law_drawn" ["cask", "many", "most", "least"] 4 sp_law_drawn := ⟨⟨f51, _, PySem.W.mg_of X G a51, F51.kp, F51.binds (ps := ["cask", "many", "most", "least"]) fun _ _ _ _ _ _ us hl => match us, hl with | [_, _, _, _], _ => rfl, f_law_drawn g h_law_tap h_law_quotient h_law_sum F51⟩, mono_law_drawn⟩
  have F52 := fun_mk (st := s_law_times) l52 c52 k52
  have h_law_times : Has l.prog w K mg base "_law_times" ["row", "factor", "other", "more"] 4 sp_law_times := ⟨⟨f52, _, PySem.W.mg_of X G a52, F52.kp, F52.binds (ps := ["row", "factor", "other", "more"]) fun _ _ _ _ _ _ us hl => match us, hl with | [_, _, _, _], _ => rfl, f_law_times g h_law_added F52⟩, mono_law_times⟩
  have F15 := fun_mk (st := s_plane_of) l15 c15 k15
  have h_plane_of : Has l.prog w K mg base "plane_of" ["book", "free", "worths"] 5 sp_plane_of := ⟨⟨f15, _, PySem.W.mg_of X G a15, F15.kp, F15.binds (ps := ["book", "free", "worths"]) fun _ _ _ _ _ _ us hl => match us, hl with | [_, _, _], _ => rfl, f_plane_of g h_reduced h_open_rows h_free_moves F15⟩, mono_plane_of⟩
  have F22 := fun_mk (st := s_row_form_by) l22 c22 k22
  have h_row_form_by : Has l.prog w K mg base "row_form_by" ["book", "columns"] 5 sp_row_form_by := ⟨⟨f22, _, PySem.W.mg_of X G a22, F22.kp, F22.binds (ps := ["book", "columns"]) fun _ _ _ _ _ _ us hl => match us, hl with | [_, _], _ => rfl, f_row_form_by g h_reduced h_told_rows F22⟩, mono_row_form_by⟩
  have F53 := fun_mk (st := s_law_mixed) l53 c53 k53
  have h_law_mixed : Has l.prog w K mg base "_law_mixed" ["cask", "form", "most"] 5 sp_law_mixed := ⟨⟨f53, _, PySem.W.mg_of X G a53, F53.kp, F53.binds (ps := ["cask", "form", "most"]) fun _ _ _ _ _ _ us hl => match us, hl with | [_, _, _], _ => rfl, f_law_mixed g h_law_tap h_law_times F53⟩, mono_law_mixed⟩
  have F16 := fun_mk (st := s_whole_plane) l16 c16 k16
  have h_whole_plane : Has l.prog w K mg base "whole_plane" ["book"] 6 sp_whole_plane := ⟨⟨f16, _, PySem.W.mg_of X G a16, F16.kp, F16.binds (ps := ["book"]) fun _ _ _ _ _ _ us hl => match us, hl with | [_], _ => rfl, f_whole_plane g h_plane_of F16⟩, mono_whole_plane⟩
  have F18 := fun_mk (st := s_a_world) l18 c18 k18
  have h_a_world : Has l.prog w K mg base "a_world" ["book"] 7 sp_a_world := ⟨⟨f18, _, PySem.W.mg_of X G a18, F18.kp, F18.binds (ps := ["book"]) fun _ _ _ _ _ _ us hl => match us, hl with | [_], _ => rfl, f_a_world g h_whole_plane F18⟩, mono_a_world⟩
  have F27 := fun_mk (st := s_breaking_world) l27 c27 k27
  have h_breaking_world : Has l.prog w K mg base "breaking_world" ["book", "row"] 7 sp_breaking_world := ⟨⟨f27, _, PySem.W.mg_of X G a27, F27.kp, F27.binds (ps := ["book", "row"]) fun _ _ _ _ _ _ us hl => match us, hl with | [_, _], _ => rfl, f_breaking_world g h_whole_plane h_moved_far h_added_of h_keeps F27⟩, mono_breaking_world⟩
  have F19 := fun_mk (st := s_need_world) l19 c19 k19
  have h_need_world : Has l.prog w K mg base "need_world" ["book"] 8 sp_need_world := ⟨⟨f19, _, PySem.W.mg_of X G a19, F19.kp, F19.binds (ps := ["book"]) fun _ _ _ _ _ _ us hl => match us, hl with | [_], _ => rfl, f_need_world g h_a_world F19⟩, mono_need_world⟩
  have F28 := fun_mk (st := s_world_of_one) l28 c28 k28
  have h_world_of_one : Has l.prog w K mg base "world_of_one" ["one", "other"] 8 sp_world_of_one := ⟨⟨f28, _, PySem.W.mg_of X G a28, F28.kp, F28.binds (ps := ["one", "other"]) fun _ _ _ _ _ _ us hl => match us, hl with | [_, _], _ => rfl, f_world_of_one g h_a_world h_breaking_world F28⟩, mono_world_of_one⟩
  have F23 := fun_mk (st := s_row_form) l23 c23 k23
  have h_row_form : Has l.prog w K mg base "row_form" ["book"] 9 sp_row_form := ⟨⟨f23, _, PySem.W.mg_of X G a23, F23.kp, F23.binds (ps := ["book"]) fun _ _ _ _ _ _ us hl => match us, hl with | [_], _ => rfl, f_row_form g h_need_world h_sum_of_row h_row_form_by F23⟩, mono_row_form⟩
  have F29 := fun_mk (st := s_parting_world) l29 c29 k29
  have h_parting_world : Has l.prog w K mg base "parting_world" ["one", "other"] 9 sp_parting_world := ⟨⟨f29, _, PySem.W.mg_of X G a29, F29.kp, F29.binds (ps := ["one", "other"]) fun _ _ _ _ _ _ us hl => match us, hl with | [_, _], _ => rfl, f_parting_world g h_world_of_one F29⟩, mono_parting_world⟩
  have F24 := fun_mk (st := s_rank_of) l24 c24 k24
  have h_rank_of : Has l.prog w K mg base "rank_of" ["book"] 10 sp_rank_of := ⟨⟨f24, _, PySem.W.mg_of X G a24, F24.kp, F24.binds (ps := ["book"]) fun _ _ _ _ _ _ us hl => match us, hl with | [_], _ => rfl, f_rank_of g h_row_form F24⟩, mono_rank_of⟩
  have F30 := fun_mk (st := s_alike_books) l30 c30 k30
  have h_alike_books : Has l.prog w K mg base "alike_books" ["one", "other"] 10 sp_alike_books := ⟨⟨f30, _, PySem.W.mg_of X G a30, F30.kp, F30.binds (ps := ["one", "other"]) fun _ _ _ _ _ _ us hl => match us, hl with | [_, _], _ => rfl, f_alike_books g h_parting_world F30⟩, mono_alike_books⟩
  have F37 := fun_mk (st := s_hidden_book) l37 c37 k37
  have h_hidden_book : Has l.prog w K mg base "hidden_book" ["book", "numbers"] 10 sp_hidden_book := ⟨⟨f37, _, PySem.W.mg_of X G a37, F37.kp, F37.binds (ps := ["book", "numbers"]) fun _ _ _ _ _ _ us hl => match us, hl with | [_, _], _ => rfl, f_hidden_book g h_need_world h_sum_of_row h_row_form_by h_row_form F37⟩, mono_hidden_book⟩
  have F55 := fun_mk (st := s_law_holds) l55 c55 k55
  have h_law_holds : Has l.prog w K mg base "_law_holds" ["cask", "many", "most", "least", "bound"] 11 sp_law_holds := ⟨⟨f55, _, PySem.W.mg_of X G a55, F55.kp, F55.binds (ps := ["cask", "many", "most", "least", "bound"]) fun _ _ _ _ _ _ us hl => match us, hl with | [_, _, _, _, _], _ => rfl, f_law_holds g h_row_form h_rank_of h_alike_books h_without_sum h_with_figure h_renamed_book h_joined_book h_hidden_book h_law_tap h_law_same h_law_form h_law_figures h_law_drawn h_law_mixed h_law_turned F55⟩, mono_law_holds⟩
  exact f_law g h_law_cask h_law_tap h_law_holds (fun_mk (st := s_law) l56 c56 k56)
end K82
set_option Elab.async false
set_option linter.all false
set_option maxRecDepth 100000
open PySem PySem.W PyProof.Rows
set_option maxHeartbeats 0 in
theorem PySem.Challenge.cw_sumsbetray_k82_whole_row_form_holds : PySem.Challenge.rw_sumsbetray_k82_whole_row_form.Holds := by
  w_on; o_law; k_head; (case hw => w_witness2)
  k_fill
  refine K82.walk_mine (l := PySem.Challenge.rw_sumsbetray_k82_whole_row_form) (n := 63) (k := 12) (x := "script") rfl (by decide) (by decide) rfl ⟨rfl, by decide, by decide⟩ (fun w h Y => PySem.W.kIn_of Y) ?nl ?F
  case F =>
    intro w mg fa h KX G hmg
    refine' K82.all_mk KX G hmg ?a0 ?l0 ?c0 ?k0 ?a1 ?l1 ?c1 ?k1 ?a2 ?l2 ?c2 ?k2 ?a3 ?l3 ?c3 ?k3 ?a4 ?l4 ?c4 ?k4 ?a5 ?l5 ?c5 ?k5 ?a6 ?l6 ?c6 ?k6 ?a7 ?l7 ?c7 ?k7 ?a8 ?l8 ?c8 ?k8 ?a9 ?l9 ?c9 ?k9 ?a10 ?l10 ?c10 ?k10 ?a11 ?l11 ?c11 ?k11 ?a12 ?l12 ?c12 ?k12 ?a13 ?l13 ?c13 ?k13 ?a14 ?l14 ?c14 ?k14 ?a15 ?l15 ?c15 ?k15 ?a16 ?l16 ?c16 ?k16 ?a17 ?l17 ?c17 ?k17 ?a18 ?l18 ?c18 ?k18 ?a19 ?l19 ?c19 ?k19 ?a20 ?l20 ?c20 ?k20 ?a21 ?l21 ?c21 ?k21 ?a22 ?l22 ?c22 ?k22 ?a23 ?l23 ?c23 ?k23 ?a24 ?l24 ?c24 ?k24 ?a25 ?l25 ?c25 ?k25 ?a26 ?l26 ?c26 ?k26 ?a27 ?l27 ?c27 ?k27 ?a28 ?l28 ?c28 ?k28 ?a29 ?l29 ?c29 ?k29 ?a30 ?l30 ?c30 ?k30 ?a31 ?l31 ?c31 ?k31 ?a32 ?l32 ?c32 ?k32 ?a33 ?l33 ?c33 ?k33 ?a34 ?l34 ?c34 ?k34 ?a35 ?l35 ?c35 ?k35 ?a36 ?l36 ?c36 ?k36 ?a37 ?l37 ?c37 ?k37 ?a38 ?l38 ?c38 ?k38 ?a39 ?l39 ?c39 ?k39 ?a40 ?l40 ?c40 ?k40 ?a41 ?l41 ?c41 ?k41 ?a42 ?l42 ?c42 ?k42 ?a43 ?l43 ?c43 ?k43 ?a44 ?l44 ?c44 ?k44 ?a45 ?l45 ?c45 ?k45 ?a46 ?l46 ?c46 ?k46 ?a47 ?l47 ?c47 ?k47 ?a48 ?l48 ?c48 ?k48 ?a49 ?l49 ?c49 ?k49 ?a50 ?l50 ?c50 ?k50 ?a51 ?l51 ?c51 ?k51 ?a52 ?l52 ?c52 ?k52 ?a53 ?l53 ?c53 ?k53 ?a54 ?l54 ?c54 ?k54 ?a55 ?l55 ?c55 ?k55 ?a56 ?l56 ?c56 ?k56 ?z_len ?z_int ?z_abs ?z_tuple ?z_list ?z_max ?z_any ?z_all ?z_sorted ?z_str ?z_bool ?z_set ?z_dict ?z_isinstance ?z_range ?z_zip ?z_enumerate ?z_gcd ?z_lcm ?a_z ?l_z ?a_o ?l_o
    (case a0 => k_is)
    (case l0 => k_is)
    (case c0 => k_is)
    (case k0 => k_is)
    (case a1 => k_is)
    (case l1 => k_is)
    (case c1 => k_is)
    (case k1 => k_is)
    (case a2 => k_is)
    (case l2 => k_is)
    (case c2 => k_is)
    (case k2 => k_is)
    (case a3 => k_is)
    (case l3 => k_is)
    (case c3 => k_is)
    (case k3 => k_is)
    (case a4 => k_is)
    (case l4 => k_is)
    (case c4 => k_is)
    (case k4 => k_is)
    (case a5 => k_is)
    (case l5 => k_is)
    (case c5 => k_is)
    (case k5 => k_is)
    (case a6 => k_is)
    (case l6 => k_is)
    (case c6 => k_is)
    (case k6 => k_is)
    (case a7 => k_is)
    (case l7 => k_is)
    (case c7 => k_is)
    (case k7 => k_is)
    (case a8 => k_is)
    (case l8 => k_is)
    (case c8 => k_is)
    (case k8 => k_is)
    (case a9 => k_is)
    (case l9 => k_is)
    (case c9 => k_is)
    (case k9 => k_is)
    (case a10 => k_is)
    (case l10 => k_is)
    (case c10 => k_is)
    (case k10 => k_is)
    (case a11 => k_is)
    (case l11 => k_is)
    (case c11 => k_is)
    (case k11 => k_is)
    (case a12 => k_is)
    (case l12 => k_is)
    (case c12 => k_is)
    (case k12 => k_is)
    (case a13 => k_is)
    (case l13 => k_is)
    (case c13 => k_is)
    (case k13 => k_is)
    (case a14 => k_is)
    (case l14 => k_is)
    (case c14 => k_is)
    (case k14 => k_is)
    (case a15 => k_is)
    (case l15 => k_is)
    (case c15 => k_is)
    (case k15 => k_is)
    (case a16 => k_is)
    (case l16 => k_is)
    (case c16 => k_is)
    (case k16 => k_is)
    (case a17 => k_is)
    (case l17 => k_is)
    (case c17 => k_is)
    (case k17 => k_is)
    (case a18 => k_is)
    (case l18 => k_is)
    (case c18 => k_is)
    (case k18 => k_is)
    (case a19 => k_is)
    (case l19 => k_is)
    (case c19 => k_is)
    (case k19 => k_is)
    (case a20 => k_is)
    (case l20 => k_is)
    (case c20 => k_is)
    (case k20 => k_is)
    (case a21 => k_is)
    (case l21 => k_is)
    (case c21 => k_is)
    (case k21 => k_is)
    (case a22 => k_is)
    (case l22 => k_is)
    (case c22 => k_is)
    (case k22 => k_is)
    (case a23 => k_is)
    (case l23 => k_is)
    (case c23 => k_is)
    (case k23 => k_is)
    (case a24 => k_is)
    (case l24 => k_is)
    (case c24 => k_is)
    (case k24 => k_is)
    (case a25 => k_is)
    (case l25 => k_is)
    (case c25 => k_is)
    (case k25 => k_is)
    (case a26 => k_is)
    (case l26 => k_is)
    (case c26 => k_is)
    (case k26 => k_is)
    (case a27 => k_is)
    (case l27 => k_is)
    (case c27 => k_is)
    (case k27 => k_is)
    (case a28 => k_is)
    (case l28 => k_is)
    (case c28 => k_is)
    (case k28 => k_is)
    (case a29 => k_is)
    (case l29 => k_is)
    (case c29 => k_is)
    (case k29 => k_is)
    (case a30 => k_is)
    (case l30 => k_is)
    (case c30 => k_is)
    (case k30 => k_is)
    (case a31 => k_is)
    (case l31 => k_is)
    (case c31 => k_is)
    (case k31 => k_is)
    (case a32 => k_is)
    (case l32 => k_is)
    (case c32 => k_is)
    (case k32 => k_is)
    (case a33 => k_is)
    (case l33 => k_is)
    (case c33 => k_is)
    (case k33 => k_is)
    (case a34 => k_is)
    (case l34 => k_is)
    (case c34 => k_is)
    (case k34 => k_is)
    (case a35 => k_is)
    (case l35 => k_is)
    (case c35 => k_is)
    (case k35 => k_is)
    (case a36 => k_is)
    (case l36 => k_is)
    (case c36 => k_is)
    (case k36 => k_is)
    (case a37 => k_is)
    (case l37 => k_is)
    (case c37 => k_is)
    (case k37 => k_is)
    (case a38 => k_is)
    (case l38 => k_is)
    (case c38 => k_is)
    (case k38 => k_is)
    (case a39 => k_is)
    (case l39 => k_is)
    (case c39 => k_is)
    (case k39 => k_is)
    (case a40 => k_is)
    (case l40 => k_is)
    (case c40 => k_is)
    (case k40 => k_is)
    (case a41 => k_is)
    (case l41 => k_is)
    (case c41 => k_is)
    (case k41 => k_is)
    (case a42 => k_is)
    (case l42 => k_is)
    (case c42 => k_is)
    (case k42 => k_is)
    (case a43 => k_is)
    (case l43 => k_is)
    (case c43 => k_is)
    (case k43 => k_is)
    (case a44 => k_is)
    (case l44 => k_is)
    (case c44 => k_is)
    (case k44 => k_is)
    (case a45 => k_is)
    (case l45 => k_is)
    (case c45 => k_is)
    (case k45 => k_is)
    (case a46 => k_is)
    (case l46 => k_is)
    (case c46 => k_is)
    (case k46 => k_is)
    (case a47 => k_is)
    (case l47 => k_is)
    (case c47 => k_is)
    (case k47 => k_is)
    (case a48 => k_is)
    (case l48 => k_is)
    (case c48 => k_is)
    (case k48 => k_is)
    (case a49 => k_is)
    (case l49 => k_is)
    (case c49 => k_is)
    (case k49 => k_is)
    (case a50 => k_is)
    (case l50 => k_is)
    (case c50 => k_is)
    (case k50 => k_is)
    (case a51 => k_is)
    (case l51 => k_is)
    (case c51 => k_is)
    (case k51 => k_is)
    (case a52 => k_is)
    (case l52 => k_is)
    (case c52 => k_is)
    (case k52 => k_is)
    (case a53 => k_is)
    (case l53 => k_is)
    (case c53 => k_is)
    (case k53 => k_is)
    (case a54 => k_is)
    (case l54 => k_is)
    (case c54 => k_is)
    (case k54 => k_is)
    (case a55 => k_is)
    (case l55 => k_is)
    (case c55 => k_is)
    (case k55 => k_is)
    (case a56 => k_is)
    (case l56 => k_is)
    (case c56 => k_is)
    (case k56 => k_is)
    (case z_len => k_is)
    (case z_int => k_is)
    (case z_abs => k_is)
    (case z_tuple => k_is)
    (case z_list => k_is)
    (case z_max => k_is)
    (case z_any => k_is)
    (case z_all => k_is)
    (case z_sorted => k_is)
    (case z_str => k_is)
    (case z_bool => k_is)
    (case z_set => k_is)
    (case z_dict => k_is)
    (case z_isinstance => k_is)
    (case z_range => k_is)
    (case z_zip => k_is)
    (case z_enumerate => k_is)
    (case z_gcd => k_is)
    (case z_lcm => k_is)
    (case a_z => k_is)
    (case l_z => k_is)
    (case a_o => k_is)
    (case l_o => k_is)
  case nl =>
    intro p
    first
      | rfl
      | decide +kernel
      | k_is
