import PyProof.Rows.All
import HandS.ForMost
import HandS.Exc
import HandS.TryOnly
import HandS.ExcOwn
import HandS.WordsExc
import HandS.Conv
import HandS.Star
import HandS.Deep
import HandS.TupAny
import HandS.TupMul
import KE.SortData
import KE.KTupSum
import KE.DataMinMax
import HandS.IsInst
import HandS.Strs
import HandS.Style
import HandS.ReCall
import PySem.Challenge.RW_quaybest_k14_best_orders
/-! DL0: tuples without an own dict: the rules that make them. -/
set_option Elab.async false
set_option linter.all false
set_option maxRecDepth 100000
set_option maxHeartbeats 4000000
namespace DL
open PySem PySem.Spec PyProof.Rows L2
/-- a tuple that has no dict of its own -/
def SqD (K : PySem.W.Frag) (F : Hp) (a : Addr) (vs : List V) : Prop := (∃ o : Obj, F a = some (.frz o (.tup vs)) ∧ o.dict = none) ∨
  ∃ (o : Obj) (its : Array Value) (n : Nat), (K.lookup a = some o ∧ o.dict = none) ∧ o.cls = .type "tuple" ∧ o.data = .seq its n ∧ its.size ≤ sizeLine ∧ Vals vs its.toList
theorem SqD.toT {K : PySem.W.Frag} {F : Hp} {a : Addr} {vs : List V} (h : SqD K F a vs) : SqT K F a vs := by
  rcases h with ⟨o, h, _⟩ | ⟨o, its, n, h, r⟩
  · exact .inl (.inr ⟨o, h⟩)
  · exact .inr ⟨o, its, n, h.1, r⟩
theorem Same.seqD {K : PySem.W.Frag} {F F' : Hp} {a : Addr} {vs : List V} (e : Same F F') (h : SqD K F a vs) : SqD K F' a vs := by
  rcases h with ⟨o, h, d⟩ | h
  · exact .inl ⟨o, e _ _ h, d⟩
  · exact .inr h
section
variable {X : Cx}
def tTupF (t : TA) : TE := fun σ H Q => t σ H fun xs H1 => xs.length ≤ sizeLine ∧ ∀ (p : Addr) (o : Obj), H1 p = none → o.dict = none → Q (.ref p) (upd H1 p (.frz o (.tup xs)))
theorem pe_tupF {es : List Expr} {t : TA} {pos : Pos} {x1} (h : PA X es t) : PE X (.Tuple es x1 pos) (tTupF t) := by
  refine ⟨fun pins s σ H Q I hq => ?_⟩
  refine wpAny_Tuple_spliced (thn (h.run pos pins s σ H _ I hq) fun us s1 ⟨xs, H1, I1, r, z, q⟩ => ⟨by rw [← r.length]; exact z, ?_⟩)
  have hf : H1 s1.heap.objs.size = none := I1.hok.fresh (Nat.le_refl _)
  refine ⟨.ref s1.heap.objs.size, _, I1.laid (t' := s1.toks) (o := .frz _ (.tup xs)) (fun b u e => Heap.get?_push_of_some _ e) (Nat.le_refl _) ⟨Heap.get?_push_size _ rfl, ?_⟩, rfl, q _ _ hf rfl⟩
  exact ⟨z, us, r, ⟨_, Heap.get?_push_size _ rfl, rfl, _, rfl⟩⟩
def rCatF (K : PySem.W.Frag) : R2 := fun x y H Q => ∃ a b xs ys, x = .ref a ∧ y = .ref b ∧ SqT K H a xs ∧ SqT K H b ys ∧ xs.length + ys.length ≤ sizeLine ∧
  (xs = [] → Q (.ref b) H) ∧ (xs ≠ [] → ys = [] → Q (.ref a) H) ∧ (xs ≠ [] → ys ≠ [] → ∀ (p : Addr) (o : Obj), H p = none → o.dict = none → Q (.ref p) (upd H p (.frz o (.tup (xs ++ ys)))))
theorem op_catF : OpR X (binaryOp .Add) (rCatF X.K) := by
  intro pins s σ H x y v u Q I rx ry h
  obtain ⟨a, b, xs, ys, rfl, rfl, ha, hb, hz, q0, q1, q2⟩ := h
  cases rx
  cases ry
  obtain ⟨its, r1, p1, _⟩ := I.tuple ha
  obtain ⟨its2, r2, p2, _⟩ := I.tuple hb
  by_cases hx : xs = []
  · subst hx
    cases r1
    exact cat_tup0 p1 p2 ⟨.ref b, H, I, rfl, q0 rfl⟩
  · refine HT.cat_tup p1 p2 (fun z => hx (r1.nil_iff.mp z)) (fun z => ⟨.ref a, H, I, rfl, q1 hx (r2.nil_iff.mp z)⟩) (fun z => ?_) (by rw [← r1.length, ← r2.length]; exact hz)
    refine ⟨.ref s.heap.objs.size, _, I.laid (t' := s.toks) (o := .frz _ (.tup (xs ++ ys))) (fun b ob q => Heap.get?_push_of_some _ q) (Nat.le_refl _) ⟨Heap.get?_push_size _ rfl, ?_⟩, rfl, q2 hx (fun w => z (r2.nil_iff.mpr w)) _ _ (I.hok.fresh (Nat.le_refl _)) rfl⟩
    exact ⟨by rw [List.length_append]; exact hz, _, r1.append r2, IsTup.new _ _⟩
def rSlF (K : PySem.W.Frag) : V → Option Int → Option Int → Hp → VK → Prop := fun x lo hi H Q => ∃ a xs, x = .ref a ∧ SqT K H a xs ∧
  (HT.sIx xs.length 0 lo = 0 ∧ HT.sIx xs.length xs.length hi = xs.length → Q (.ref a) H) ∧ (¬ (HT.sIx xs.length 0 lo = 0 ∧ HT.sIx xs.length xs.length hi = xs.length) → ∀ (p : Addr) (o : Obj), H p = none → o.dict = none → Q (.ref p) (upd H p (.frz o (.tup (cutV xs lo hi)))))
theorem sl_tupF : SlR X (rSlF X.K) := by
  intro pins s σ H x v vl vu lo hi sl Q I rx hs pl pu h
  obtain ⟨a, xs, rfl, hx, q1, q2⟩ := h
  cases rx
  obtain ⟨its, r, ht, hz⟩ := I.tuple hx
  have hlen : its.toArray.size = xs.length := by rw [List.size_toArray]; exact r.length.symm
  refine ⟨"tuple", _, PyProof.Rows.slot_tuple_getitem.lookup, ht.typeIs, ?_⟩
  by_cases hw : HT.sIx xs.length 0 lo = 0 ∧ HT.sIx xs.length xs.length hi = xs.length
  · exact getItem_tuple_whole ht hs pl pu (by rw [hlen]; exact hw) ⟨.ref a, H, I, rfl, q1 hw⟩
  · refine HT.getItem_tuple_cut ht hs pl pu (by rw [hlen]; exact hw) ?_ (by rw [hlen]; exact hz)
    rw [hlen]
    refine ⟨.ref s.heap.objs.size, _, I.laid (t' := s.toks) (o := .frz _ (.tup (cutV xs lo hi))) (fun b ob q => Heap.get?_push_of_some _ q) (Nat.le_refl _) ⟨Heap.get?_push_size _ rfl, ?_⟩, rfl, q2 hw _ _ (I.hok.fresh (Nat.le_refl _)) rfl⟩
    exact ⟨Nat.le_trans (cutV_length xs lo hi) hz, _, (r.drop (HT.sIx xs.length 0 lo)).take (HT.sIx xs.length xs.length hi - HT.sIx xs.length 0 lo), IsTup.new _ _⟩
def rTupOfF (K : PySem.W.Frag) : List V → Hp → VK → Prop := fun xs H Q => ∃ p ys, xs = [.ref p] ∧ ((SqL K H p ys ∧ ∀ (l : Addr) (o : Obj), H l = none → o.dict = none → Q (.ref l) (upd H l (.frz o (.tup ys)))) ∨ (SqT K H p ys ∧ Q (.ref p) H))
theorem call_tupleF : CallR X (.type "tuple") (rTupOfF X.K) := by
  intro pins s σ H xs us Q I r h
  obtain ⟨p, ys, rfl, h⟩ := h
  obtain ⟨u, rfl, rx⟩ := vals1 r
  cases rx
  rcases h with ⟨hq, q⟩ | ⟨hq, q⟩
  · obtain ⟨its, r', pl, hz⟩ := I.list hq
    have hlen := r'.length
    refine call_tuple_list pl.isList (fun h' kp => ?_) (by simp only [List.size_toArray] <;> omega)
    have I1 : Inv X pins σ H { s with heap := h' } := I.kept (t' := s.toks) kp
    exact ⟨.ref h'.objs.size, _, I1.laid (t' := s.toks) (o := .frz _ (.tup ys)) (fun b o e => Heap.get?_push_of_some _ e) (Nat.le_refl _) ⟨Heap.get?_push_size _ rfl, hz, its, r', IsTup.new _ _⟩, rfl, q _ _ (I1.hok.fresh (Nat.le_refl _)) rfl⟩
  · obtain ⟨its, r', pl, hz⟩ := I.tuple hq
    exact call_tuple_same pl ⟨.ref p, H, I, rfl, q⟩
def tTupRgF (te : L2.St → Hp → (Int → Int → Hp → Prop) → Prop) : TE := fun σ H Q => te σ H fun a b H1 => RgOk a b ∧ ∀ (q : Addr) (o : Obj), H1 q = none → o.dict = none → Q (.ref q) (upd H1 q (.frz o (.tup (rgV a b))))
theorem pe_tupRgF {e : Expr} {te : L2.St → Hp → (Int → Int → Hp → Prop) → Prop} {p pos : Pos} (hc : X.calm = true) (hg : Gl X "tuple") (hm : X.mg "tuple" = none) (he : PRg X e te) (na : starEach [e] X.env = (false, eval e X.env) :: starEach [] X.env := by rfl) : PE X (.Call (.Name "tuple" p) [e] [] pos) (tTupRgF te) := by
  refine ⟨fun pins s σ H Q I h => ?_⟩
  refine Call_ (ld_blt I hg hm boot_tuple (PyProof.Rows.callWith_type1 (args_cons (thn (he pins s σ H _ I h) fun x s1 ⟨r, a, b, t, u, v, H1, ex, hr, I1, ok, q⟩ => args_nil ?_) na) na))
  subst ex
  obtain ⟨b1, b2, b3, b4, b5⟩ := ok
  refine call_tuple_range (n := (b - a).toNat) (I1.ok.hd hc) hr (small_one b1 b2 b3 b4) (rangeSize_nat a b) b5 fun h' tk acc hk hi => ?_
  have I2 : Inv X pins σ H1 { s1 with heap := h', toks := tk } := I1.kept hk
  refine ⟨.ref h'.objs.size, _, I2.laid (t' := tk) (o := .frz _ (.tup (rgV a b))) (fun c o e => Heap.get?_push_of_some _ e) (Nat.le_refl _) ⟨Heap.get?_push_size _ rfl, ?_, acc.toList, vals_rg hi, ?_⟩, rfl, q _ _ (I2.hok.fresh (Nat.le_refl _)) rfl⟩
  · rw [rgV_length, sizeLine_eq]; omega
  · rw [Array.toArray_toList]; exact IsTup.new _ _
/-- a value that is such a tuple -/
def tyTup (K : PySem.W.Frag) (x : V) (H : Hp) : Prop := ∃ p ys, x = .ref p ∧ SqD K H p ys
end
end DL
/-! DL1: data without a heap, what stands for it, the state of a def's slots, the judgements. -/
namespace DL
open PySem PySem.Spec PyProof.Rows L2
/-- data -/
inductive D where
  | non | bl (b : Bool) | int (i : Int) | str (s : Str) | tup (xs : List D) | lst (xs : List D)
  | dic (kvs : List (Key × D)) | dit (kvs : List (List Key × D)) | ins (c : Str) (fs : List (Str × D)) | raw (xs : List D)
mutual
/-- frozen data: what stands at v stands in F for good -/
inductive Fz (mg : Str → Option Value) (K : PySem.W.Frag) (F : Hp) : D → V → Prop
  | non : Fz mg K F .non .non
  | bl (b : Bool) : Fz mg K F (.bl b) (.bl b)
  | int (i : Int) : Fz mg K F (.int i) (.int i)
  | str (x : Str) : Fz mg K F (.str x) (.str x)
  | tup {a : Addr} {vs : List V} {ds : List D} : SqD K F a vs → FzL mg K F ds vs → Fz mg K F (.tup ds) (.ref a)
  | raw {a : Addr} {vs : List V} {ds : List D} : SqT K F a vs → FzL mg K F ds vs → Fz mg K F (.raw ds) (.ref a)
  | lst {a : Addr} {vs : List V} {ds : List D} : F a = some (.lst vs) → FzL mg K F ds vs → Fz mg K F (.lst ds) (.ref a)
  | dic {a : Addr} {kvs : List (Key × D)} {vs : List (Key × V)} : F a = some (.dK vs) → FzP mg K F kvs vs → Fz mg K F (.dic kvs) (.ref a)
  | dit {a : Addr} {kvs : List (List Key × D)} {vs : List (List Key × V)} : F a = some (.dT vs) → FzT mg K F kvs vs → Fz mg K F (.dit kvs) (.ref a)
  | ins {a C dx : Addr} {c : Str} {fs : List (Str × D)} {vs : List (Str × V)} : F a = some (.ins C dx vs) → F dx = some (.own a) → mg c = some (.ref C) → FzS mg K F fs vs → Fz mg K F (.ins c fs) (.ref a)
inductive FzL (mg : Str → Option Value) (K : PySem.W.Frag) (F : Hp) : List D → List V → Prop
  | nil : FzL mg K F [] []
  | cons {d : D} {v : V} {ds : List D} {vs : List V} : Fz mg K F d v → FzL mg K F ds vs → FzL mg K F (d :: ds) (v :: vs)
inductive FzP (mg : Str → Option Value) (K : PySem.W.Frag) (F : Hp) : List (Key × D) → List (Key × V) → Prop
  | nil : FzP mg K F [] []
  | cons {k : Key} {d : D} {v : V} {ds : List (Key × D)} {vs : List (Key × V)} : Fz mg K F d v → FzP mg K F ds vs → FzP mg K F ((k, d) :: ds) ((k, v) :: vs)
inductive FzT (mg : Str → Option Value) (K : PySem.W.Frag) (F : Hp) : List (List Key × D) → List (List Key × V) → Prop
  | nil : FzT mg K F [] []
  | cons {k : List Key} {d : D} {v : V} {ds : List (List Key × D)} {vs : List (List Key × V)} : Fz mg K F d v → FzT mg K F ds vs → FzT mg K F ((k, d) :: ds) ((k, v) :: vs)
inductive FzS (mg : Str → Option Value) (K : PySem.W.Frag) (F : Hp) : List (Str × D) → List (Str × V) → Prop
  | nil : FzS mg K F [] []
  | cons {k : Str} {d : D} {v : V} {ds : List (Str × D)} {vs : List (Str × V)} : Fz mg K F d v → FzS mg K F ds vs → FzS mg K F ((k, d) :: ds) ((k, v) :: vs)
end
theorem Same.seqT {K : PySem.W.Frag} {H H' : Hp} {a : Addr} {xs : List V} (e : Same H H') (h : SqT K H a xs) : SqT K H' a xs := by
  rcases h with (h | ⟨o, h⟩) | h
  · exact .inl (.inl (e _ _ h))
  · exact .inl (.inr ⟨o, e _ _ h⟩)
  · exact .inr h
section
variable {mg : Str → Option Value} {K : PySem.W.Frag} {F F' : Hp}
mutual
theorem Fz.mono (s : Same F F') : ∀ {d : D} {v : V}, Fz mg K F d v → Fz mg K F' d v
  | _, _, .non => .non
  | _, _, .bl b => .bl b
  | _, _, .int i => .int i
  | _, _, .str x => .str x
  | _, _, .tup h hs => .tup (Same.seqD s h) (FzL.mono s hs)
  | _, _, .raw h hs => .raw (Same.seqT s h) (FzL.mono s hs)
  | _, _, .lst h hs => .lst (s _ _ h) (FzL.mono s hs)
  | _, _, .dic h hs => .dic (s _ _ h) (FzP.mono s hs)
  | _, _, .dit h hs => .dit (s _ _ h) (FzT.mono s hs)
  | _, _, .ins h h2 h3 hs => .ins (s _ _ h) (s _ _ h2) h3 (FzS.mono s hs)
theorem FzL.mono (s : Same F F') : ∀ {d : List D} {v : List V}, FzL mg K F d v → FzL mg K F' d v
  | _, _, .nil => .nil
  | _, _, .cons h hs => .cons (Fz.mono s h) (FzL.mono s hs)
theorem FzP.mono (s : Same F F') : ∀ {d : List (Key × D)} {v : List (Key × V)}, FzP mg K F d v → FzP mg K F' d v
  | _, _, .nil => .nil
  | _, _, .cons h hs => .cons (Fz.mono s h) (FzP.mono s hs)
theorem FzT.mono (s : Same F F') : ∀ {d : List (List Key × D)} {v : List (List Key × V)}, FzT mg K F d v → FzT mg K F' d v
  | _, _, .nil => .nil
  | _, _, .cons h hs => .cons (Fz.mono s h) (FzT.mono s hs)
theorem FzS.mono (s : Same F F') : ∀ {d : List (Str × D)} {v : List (Str × V)}, FzS mg K F d v → FzS mg K F' d v
  | _, _, .nil => .nil
  | _, _, .cons h hs => .cons (Fz.mono s h) (FzS.mono s hs)
end
theorem FzL.length : ∀ {ds : List D} {vs : List V}, FzL mg K F ds vs → ds.length = vs.length
  | _, _, .nil => rfl
  | _, _, .cons _ hs => congrArg (· + 1) (FzL.length hs)
theorem FzL.get : ∀ {ds : List D} {vs : List V} {i : Nat} {d : D}, FzL mg K F ds vs → ds[i]? = some d → ∃ v, vs[i]? = some v ∧ Fz mg K F d v
  | _, _, _, _, .nil, e => by simp at e
  | _, _, 0, _, .cons h _, e => by simp at e; subst e; exact ⟨_, rfl, h⟩
  | _, _, i + 1, d, .cons _ hs, e => by
    obtain ⟨v, h1, h2⟩ := FzL.get (i := i) (d := d) hs (by simpa using e)
    exact ⟨v, by simpa using h1, h2⟩
theorem FzL.get' : ∀ {ds : List D} {vs : List V} {i : Nat} {v : V}, FzL mg K F ds vs → vs[i]? = some v → ∃ d, ds[i]? = some d ∧ Fz mg K F d v
  | _, _, _, _, .nil, e => by simp at e
  | _, _, 0, _, .cons h _, e => by simp at e; subst e; exact ⟨_, rfl, h⟩
  | _, _, i + 1, d, .cons _ hs, e => by
    obtain ⟨v, h1, h2⟩ := FzL.get' (i := i) (v := d) hs (by simpa using e)
    exact ⟨v, by simpa using h1, h2⟩
theorem FzL.append : ∀ {ds es : List D} {vs us : List V}, FzL mg K F ds vs → FzL mg K F es us → FzL mg K F (ds ++ es) (vs ++ us)
  | _, _, _, _, .nil, s => s
  | _, _, _, _, .cons h hs, s => .cons h (FzL.append hs s)
theorem FzL.take : ∀ {ds : List D} {vs : List V} (n : Nat), FzL mg K F ds vs → FzL mg K F (ds.take n) (vs.take n)
  | _, _, 0, _ => .nil
  | _, _, _ + 1, .nil => .nil
  | _, _, n + 1, .cons h hs => .cons h (FzL.take n hs)
theorem FzL.drop : ∀ {ds : List D} {vs : List V} (n : Nat), FzL mg K F ds vs → FzL mg K F (ds.drop n) (vs.drop n)
  | _, _, 0, h => h
  | _, _, _ + 1, .nil => .nil
  | _, _, n + 1, .cons _ hs => FzL.drop n hs
theorem FzL.set : ∀ {ds : List D} {vs : List V} {d : D} {v : V} (n : Nat), FzL mg K F ds vs → Fz mg K F d v → FzL mg K F (ds.set n d) (vs.set n v)
  | _, _, _, _, _, .nil, _ => .nil
  | _, _, _, _, 0, .cons _ hs, q => .cons q hs
  | _, _, _, _, n + 1, .cons h hs, q => .cons h (FzL.set n hs q)
theorem FzL.reverse : ∀ {ds : List D} {vs : List V}, FzL mg K F ds vs → FzL mg K F ds.reverse vs.reverse
  | _, _, .nil => .nil
  | _, _, .cons h hs => by rw [List.reverse_cons, List.reverse_cons]; exact (FzL.reverse hs).append (.cons h .nil)
theorem FzL.eraseIdx : ∀ {ds : List D} {vs : List V} (n : Nat), FzL mg K F ds vs → FzL mg K F (ds.eraseIdx n) (vs.eraseIdx n)
  | _, _, _, .nil => .nil
  | _, _, 0, .cons _ hs => hs
  | _, _, n + 1, .cons h hs => .cons h (FzL.eraseIdx n hs)
theorem FzL.dropLast : ∀ {ds : List D} {vs : List V}, FzL mg K F ds vs → FzL mg K F ds.dropLast vs.dropLast := fun {ds vs} h => by
  rw [List.dropLast_eq_take, List.dropLast_eq_take, h.length]; exact h.take _
theorem FzL.insertIdx {d : D} {v : V} : ∀ {ds : List D} {vs : List V} (n : Nat), FzL mg K F ds vs → Fz mg K F d v → FzL mg K F (ds.insertIdx n d) (vs.insertIdx n v)
  | _, _, 0, hs, q => by rw [List.insertIdx_zero, List.insertIdx_zero]; exact .cons q hs
  | _, _, n + 1, .nil, q => .nil
  | _, _, n + 1, .cons h hs, q => by rw [List.insertIdx_succ_cons, List.insertIdx_succ_cons]; exact .cons h (FzL.insertIdx n hs q)
theorem FzL.ints : ∀ {ns : List Int} {vs : List V}, FzL mg K F (ns.map D.int) vs → vs = ns.map V.int
  | [], _, .nil => rfl
  | n :: ns, _, .cons h hs => by cases h; rw [FzL.ints hs]; rfl
theorem FzL.of_ints : ∀ (ns : List Int), FzL mg K F (ns.map D.int) (ns.map V.int)
  | [] => .nil
  | n :: ns => .cons (.int n) (FzL.of_ints ns)
theorem FzL.strs : ∀ {ns : List Str} {vs : List V}, FzL mg K F (ns.map D.str) vs → vs = ns.map V.str
  | [], _, .nil => rfl
  | n :: ns, _, .cons h hs => by cases h; rw [FzL.strs hs]; rfl
theorem FzL.of_strs : ∀ (ns : List Str), FzL mg K F (ns.map D.str) (ns.map V.str)
  | [] => .nil
  | n :: ns => .cons (.str n) (FzL.of_strs ns)
theorem FzL.bls : ∀ {ns : List Bool} {vs : List V}, FzL mg K F (ns.map D.bl) vs → vs = ns.map V.bl
  | [], _, .nil => rfl
  | n :: ns, _, .cons h hs => by cases h; rw [FzL.bls hs]; rfl
end
/-! ### ownership -/
inductive Ow where
  | fz | ls (c : Ow) | br (a : Addr) | at (a : Addr) (w : Ow)
mutual
inductive Rp (mg : Str → Option Value) (K : PySem.W.Frag) (F H : Hp) : Ow → D → V → List Addr → Prop
  | fz {d : D} {v : V} : Fz mg K F d v → Rp mg K F H .fz d v []
  | ls {c : Ow} {a : Addr} {vs : List V} {ds : List D} {f : List Addr} : H a = some (.lst vs) → RpL mg K F H c ds vs f → Rp mg K F H (.ls c) (.lst ds) (.ref a) (a :: f)
  | br {a : Addr} {vs : List V} {ds : List D} : Rd H a (.lst vs) → FzL mg K F ds vs → Rp mg K F H (.br a) (.lst ds) (.ref a) []
  | at {a : Addr} {w : Ow} {d : D} {f : List Addr} : Rp mg K F H w d (.ref a) f → Rp mg K F H (.at a w) d (.ref a) f
inductive RpL (mg : Str → Option Value) (K : PySem.W.Frag) (F H : Hp) : Ow → List D → List V → List Addr → Prop
  | nil {c : Ow} : RpL mg K F H c [] [] []
  | cons {c : Ow} {d : D} {v : V} {ds : List D} {vs : List V} {f1 f2 : List Addr} : Rp mg K F H c d v f1 → RpL mg K F H c ds vs f2 → RpL mg K F H c (d :: ds) (v :: vs) (f1 ++ f2)
end
section
variable {mg : Str → Option Value} {K : PySem.W.Frag} {F F' H H' : Hp}
/-- the addresses a borrow leans on -/
def Ow.Brs : Ow → Addr → Prop
  | .br a, b => a = b
  | .ls c, b => c.Brs b
  | .at _ w, b => w.Brs b
  | .fz, _ => False
mutual
theorem Rp.move (s : Same F F') : ∀ {w : Ow} {d : D} {v : V} {f : List Addr}, Rp mg K F H w d v f → (∀ a ∈ f, ∀ o, H a = some o → H' a = some o) → (∀ a, w.Brs a → ∀ o, H a = some o → H' a = some o) → Rp mg K F' H' w d v f
  | _, _, _, _, .fz h, _, _ => .fz (h.mono s)
  | _, _, _, _, .ls h hs, k, b => .ls (k _ List.mem_cons_self _ h) (RpL.move s hs (fun a m => k a (List.mem_cons_of_mem _ m)) b)
  | _, _, _, _, .br h hs, k, b => .br (by
      rcases h with h | ⟨o, h⟩
      · exact .inl (b _ rfl _ h)
      · exact .inr ⟨o, b _ rfl _ h⟩) (hs.mono s)
  | _, _, _, _, .at h, k, b => .at (Rp.move s h k b)
theorem RpL.move (s : Same F F') : ∀ {w : Ow} {d : List D} {v : List V} {f : List Addr}, RpL mg K F H w d v f → (∀ a ∈ f, ∀ o, H a = some o → H' a = some o) → (∀ a, w.Brs a → ∀ o, H a = some o → H' a = some o) → RpL mg K F' H' w d v f
  | _, _, _, _, .nil, _, _ => .nil
  | _, _, _, _, .cons h hs, k, b => .cons (Rp.move s h (fun a m => k a (List.mem_append_left _ m)) b) (RpL.move s hs (fun a m => k a (List.mem_append_right _ m)) b)
end
mutual
theorem Rp.there : ∀ {w : Ow} {d : D} {v : V} {f : List Addr}, Rp mg K F H w d v f → ∀ a ∈ f, ∃ vs, H a = some (.lst vs)
  | _, _, _, _, .fz h, a, m => by simp at m
  | _, _, _, _, .ls h hs, a, m => by
    rcases List.mem_cons.mp m with rfl | m
    · exact ⟨_, h⟩
    · exact RpL.there hs a m
  | _, _, _, _, .br h hs, a, m => by simp at m
  | _, _, _, _, .at h, a, m => Rp.there h a m
theorem RpL.there : ∀ {w : Ow} {d : List D} {v : List V} {f : List Addr}, RpL mg K F H w d v f → ∀ a ∈ f, ∃ vs, H a = some (.lst vs)
  | _, _, _, _, .nil, a, m => by simp at m
  | _, _, _, _, .cons h hs, a, m => (List.mem_append.mp m).elim (Rp.there h a) (RpL.there hs a)
end
theorem Rp.fz_inv {d : D} {v : V} {f : List Addr} (h : Rp mg K F H .fz d v f) : Fz mg K F d v ∧ f = [] := by
  cases h with
  | fz h => exact ⟨h, rfl⟩
theorem Rp.ls_inv {c : Ow} {d : D} {v : V} {f : List Addr} (h : Rp mg K F H (.ls c) d v f) : ∃ a vs ds g, d = .lst ds ∧ v = .ref a ∧ H a = some (.lst vs) ∧ RpL mg K F H c ds vs g ∧ f = a :: g := by
  cases h with
  | ls h hs => exact ⟨_, _, _, _, rfl, rfl, h, hs, rfl⟩
theorem Rp.br_inv {a : Addr} {d : D} {v : V} {f : List Addr} (h : Rp mg K F H (.br a) d v f) : ∃ vs ds, d = .lst ds ∧ v = .ref a ∧ Rd H a (.lst vs) ∧ FzL mg K F ds vs ∧ f = [] := by
  cases h with
  | br h hs => exact ⟨_, _, rfl, rfl, h, hs, rfl⟩
theorem Rp.at_inv {a : Addr} {w : Ow} {d : D} {v : V} {f : List Addr} (h : Rp mg K F H (.at a w) d v f) : v = .ref a ∧ Rp mg K F H w d (.ref a) f := by
  cases h with
  | «at» h => exact ⟨rfl, h⟩
theorem RpL.fzl : ∀ {ds : List D} {vs : List V} {f : List Addr}, RpL mg K F H .fz ds vs f → FzL mg K F ds vs ∧ f = []
  | _, _, _, .nil => ⟨.nil, rfl⟩
  | _, _, _, .cons h hs => by
    cases h with
    | fz h =>
      obtain ⟨a, b⟩ := RpL.fzl hs
      subst b
      exact ⟨.cons h a, rfl⟩
theorem RpL.of_fzl : ∀ {ds : List D} {vs : List V}, FzL mg K F ds vs → RpL mg K F H .fz ds vs []
  | _, _, .nil => .nil
  | _, _, .cons h hs => .cons (f1 := []) (f2 := []) (.fz h) (RpL.of_fzl hs)
theorem RpL.length : ∀ {c : Ow} {ds : List D} {vs : List V} {f : List Addr}, RpL mg K F H c ds vs f → ds.length = vs.length
  | _, _, _, _, .nil => rfl
  | _, _, _, _, .cons _ hs => congrArg (· + 1) (RpL.length hs)
end
/-! ### steps of the heap -/
/-- only new things, some of them frozen -/
structure New (H F H' F' : Hp) : Prop where
  hh : Same H H'
  ff : Same F F'
  fh : Same F' H'
  nw : ∀ a o, F' a = some o → F a = some o ∨ H a = none
theorem New.refl {H F : Hp} (h : Same F H) : New H F H F := ⟨Same.refl _, Same.refl _, h, fun _ _ e => .inl e⟩
theorem New.trans {H F H1 F1 H2 F2 : Hp} (a : New H F H1 F1) (b : New H1 F1 H2 F2) : New H F H2 F2 :=
  ⟨a.hh.trans b.hh, a.ff.trans b.ff, b.fh, fun x o e => by
    rcases b.nw x o e with q | q
    · exact a.nw x o q
    · exact .inr (a.hh.free q)⟩
structure Stp (H F : Hp) (U : Addr → Prop) (H' F' : Hp) (U' : Addr → Prop) : Prop where
  keep : ∀ a o, H a = some o → ¬ U a → H' a = some o
  ff : Same F F'
  nw : ∀ a o, F' a = some o → F a = some o ∨ H a = none ∨ U a
  un : ∀ a, U' a → U a ∨ H a = none
theorem Stp.refl {H F : Hp} {U : Addr → Prop} : Stp H F U H F U := ⟨fun _ _ e _ => e, Same.refl _, fun _ _ e => .inl e, fun _ e => .inl e⟩
theorem Stp.trans {H F H1 F1 H2 F2 : Hp} {U U1 U2 : Addr → Prop} (a : Stp H F U H1 F1 U1) (b : Stp H1 F1 U1 H2 F2 U2) : Stp H F U H2 F2 U2 := by
  have back : ∀ x, H1 x = none → H x = none ∨ U x := fun x e => by
    by_cases hu : U x
    · exact .inr hu
    · refine .inl ?_
      cases q : H x with
      | none => rfl
      | some o => rw [a.keep x o q hu] at e; cases e
  refine ⟨fun x o e hu => b.keep x o (a.keep x o e hu) fun z => ?_, a.ff.trans b.ff, fun x o e => ?_, fun x e => ?_⟩
  · rcases a.un x z with q | q
    · exact hu q
    · rw [q] at e; cases e
  · rcases b.nw x o e with q | q | q
    · exact a.nw x o q
    · rcases back x q with r | r
      · exact .inr (.inl r)
      · exact .inr (.inr r)
    · rcases a.un x q with r | r
      · exact .inr (.inr r)
      · exact .inr (.inl r)
  · rcases b.un x e with q | q
    · exact a.un x q
    · exact (back x q).symm
theorem New.stp {H F H' F' : Hp} {U : Addr → Prop} (n : New H F H' F') : Stp H F U H' F' U :=
  ⟨fun a o e _ => n.hh a o e, n.ff, fun a o e => (n.nw a o e).elim .inl fun z => .inr (.inl z), fun _ e => .inl e⟩
theorem Stp.sub {H F H' F' : Hp} {U U' V : Addr → Prop} (n : Stp H F U H' F' U') (h : ∀ a, V a → U' a) : Stp H F U H' F' V := ⟨n.keep, n.ff, n.nw, fun a e => n.un a (h a e)⟩
theorem Stp.sup {H F H' F' : Hp} {U U' V : Addr → Prop} (n : Stp H F U H' F' U') (h : ∀ a, U a → V a) : Stp H F V H' F' U' :=
  ⟨fun a o e k => n.keep a o e fun z => k (h a z), n.ff, fun a o e => (n.nw a o e).elim .inl fun z => .inr (z.elim .inl fun q => .inr (h a q)), fun a e => (n.un a e).elim (fun z => .inl (h a z)) .inr⟩
/-! ### the state of a def's slots -/
abbrev En := List (Option D)
abbrev Fp := Nat → List Addr
def UU (fp : Fp) (a : Addr) : Prop := ∃ i, a ∈ fp i
abbrev Tau := List Ow
def tg (τ : Tau) (i : Nat) : Ow := (τ[i]?).getD .fz
structure SO (mg : Str → Option Value) (K : PySem.W.Frag) (τ : Tau) (env : En) (σ : L2.St) (H F : Hp) (fp : Fp) : Prop where
  fh : Same F H
  len : env.length = σ.length
  tl : τ.length = σ.length
  rep : ∀ (i : Nat) (d : D), env[i]? = some (some d) → ∃ v, σ[i]? = some (some v) ∧ Rp mg K F H (tg τ i) d v (fp i)
  non : ∀ i : Nat, env[i]?.join = none → fp i = []
  nd : ∀ i, (fp i).Nodup
  dj : ∀ i j a, a ∈ fp i → a ∈ fp j → i = j
  nf : ∀ i a, a ∈ fp i → F a = none
  br : ∀ (i : Nat) (a : Addr), (tg τ i).Brs a → H a ≠ none ∧ ¬ UU fp a
section
variable {mg : Str → Option Value} {K : PySem.W.Frag} {τ : Tau} {env : En} {σ : L2.St} {H F H' F' : Hp} {fp : Fp}
theorem SO.new (s : SO mg K τ env σ H F fp) (n : New H F H' F') : SO mg K τ env σ H' F' fp := by
  have ht : ∀ i a, a ∈ fp i → ∃ o, H a = some o := fun i a m => by
    cases q : env[i]? with
    | none => rw [s.non i (by rw [q]; rfl)] at m; simp at m
    | some x =>
      cases x with
      | none => rw [s.non i (by rw [q]; rfl)] at m; simp at m
      | some d =>
        obtain ⟨v, _, r⟩ := s.rep i d q
        obtain ⟨vs, e⟩ := r.there a m
        exact ⟨_, e⟩
  refine ⟨n.fh, s.len, s.tl, fun i d e => ?_, s.non, s.nd, s.dj, fun i a m => ?_, fun i a hb => ⟨fun z => (s.br i a hb).1 (n.hh.free z), (s.br i a hb).2⟩⟩
  · obtain ⟨v, e1, r⟩ := s.rep i d e
    exact ⟨v, e1, r.move n.ff (fun a _ o => n.hh a o) fun a _ o => n.hh a o⟩
  · cases q : F' a with
    | none => rfl
    | some o =>
      rcases n.nw a o q with z | z
      · rw [s.nf i a m] at z; cases z
      · obtain ⟨o', e⟩ := ht i a m
        rw [z] at e; cases e
theorem SO.there (s : SO mg K τ env σ H F fp) {i : Nat} {a : Addr} (m : a ∈ fp i) : ∃ vs, H a = some (.lst vs) := by
  cases q : env[i]? with
  | none => rw [s.non i (by rw [q]; rfl)] at m; simp at m
  | some x =>
    cases x with
    | none => rw [s.non i (by rw [q]; rfl)] at m; simp at m
    | some d =>
      obtain ⟨v, _, r⟩ := s.rep i d q
      exact r.there a m
theorem SO.uthere (s : SO mg K τ env σ H F fp) {a : Addr} (m : UU fp a) : H a ≠ none := by
  obtain ⟨i, m⟩ := m
  obtain ⟨vs, e⟩ := s.there m
  rw [e]; simp
end
/-- a new, unshared value's addresses -/
structure Frs (F' : Hp) (fp' : Fp) (fr : List Addr) : Prop where
  nd : fr.Nodup
  nf : ∀ a ∈ fr, F' a = none
  dj : ∀ a ∈ fr, ¬ UU fp' a
theorem Frs.nil {F' : Hp} {fp' : Fp} : Frs F' fp' [] := ⟨List.nodup_nil, by simp, by simp⟩
def UF (fp : Fp) (fr : List Addr) (a : Addr) : Prop := UU fp a ∨ a ∈ fr
/-! ### judgements -/
abbrev EX := En → Option (D × En)
abbrev BX := En → Option (Bool × En)
abbrev AX := En → Option (List D × En)
structure DE (X : Cx) (τ : Tau) (e : Expr) (f : EX) (ρ : Ow) : Prop where
  go : ∃ t, PE X e t ∧ ∀ (σ : L2.St) (H F : Hp) (env : En) (fp : Fp) (Q : VK), SO X.mg X.K τ env σ H F fp →
    (∃ d env', f env = some (d, env') ∧ ∀ v H' F' fp' fr, SO X.mg X.K τ env' σ H' F' fp' → Rp X.mg X.K F' H' ρ d v fr → Frs F' fp' fr → Stp H F (UU fp) H' F' (UF fp' fr) → Q v H') → t σ H Q
structure DT (X : Cx) (τ : Tau) (e : Expr) (f : BX) : Prop where
  go : ∃ t, PT X e t ∧ ∀ (σ : L2.St) (H F : Hp) (env : En) (fp : Fp) (Q : Bool → Hp → Prop), SO X.mg X.K τ env σ H F fp →
    (∃ d env', f env = some (d, env') ∧ ∀ H' F' fp', SO X.mg X.K τ env' σ H' F' fp' → Stp H F (UU fp) H' F' (UU fp') → Q d H') → t σ H Q
structure DW (X : Cx) (τ : Tau) (e : Expr) (f : BX) : Prop where
  go : ∃ t, PW X e t ∧ ∀ (σ : L2.St) (H F : Hp) (env : En) (fp : Fp) (Q : Bool → Hp → Prop), SO X.mg X.K τ env σ H F fp →
    (∃ d env', f env = some (d, env') ∧ ∀ H' F' fp', SO X.mg X.K τ env' σ H' F' fp' → Stp H F (UU fp) H' F' (UU fp') → Q d H') → t σ H Q
/-- arguments, all of them frozen -/
structure DA (X : Cx) (τ : Tau) (es : List Expr) (f : AX) : Prop where
  go : ∃ t, PA X es t ∧ ∀ (σ : L2.St) (H F : Hp) (env : En) (fp : Fp) (Q : List V → Hp → Prop), SO X.mg X.K τ env σ H F fp →
    (∃ ds env', f env = some (ds, env') ∧ ∀ vs H' F' fp', SO X.mg X.K τ env' σ H' F' fp' → FzL X.mg X.K F' ds vs → Stp H F (UU fp) H' F' (UU fp') → Q vs H') → t σ H Q
theorem uf_nil {fp : Fp} {a : Addr} : UF fp [] a ↔ UU fp a := ⟨fun h => h.elim id (by simp), .inl⟩
theorem Stp.nofr {H F H' F' : Hp} {U : Addr → Prop} {fp : Fp} (s : Stp H F U H' F' (UF fp [])) : Stp H F U H' F' (UU fp) := s.sub fun a h => .inl h
theorem Stp.tofr {H F H' F' : Hp} {U : Addr → Prop} {fp : Fp} (s : Stp H F U H' F' (UU fp)) : Stp H F U H' F' (UF fp []) := s.sub fun a h => uf_nil.mp h
/-! ### denotations of expressions -/
def eC (d : D) : EX := fun env => some (d, env)
def eV (i : Nat) : EX := fun env => (env[i]?).join.map fun d => (d, env)
def eU (g : D → Option D) (a : EX) : EX := fun env => (a env).bind fun x => (g x.1).map fun d => (d, x.2)
def eB (g : D → D → Option D) (a b : EX) : EX := fun env => (a env).bind fun x => (b x.2).bind fun y => (g x.1 y.1).map fun d => (d, y.2)
def bT (a : EX) : BX := fun env => (a env).bind fun x => match x.1 with | .bl c => some (c, x.2) | _ => none
def bAnd (a b : BX) : BX := fun env => (a env).bind fun x => if x.1 = true then b x.2 else some (false, x.2)
def bOr (a b : BX) : BX := fun env => (a env).bind fun x => if x.1 = true then some (true, x.2) else b x.2
def bNot (a : BX) : BX := fun env => (a env).map fun x => (!x.1, x.2)
def eBo (a : BX) : EX := fun env => (a env).map fun x => (.bl x.1, x.2)
def eIf (c : BX) (a b : EX) : EX := fun env => (c env).bind fun x => if x.1 = true then a x.2 else b x.2
def aN : AX := fun env => some ([], env)
def aC (a : EX) (r : AX) : AX := fun env => (a env).bind fun x => (r x.2).map fun y => (x.1 :: y.1, y.2)
def eA (g : List D → Option D) (a : AX) : EX := fun env => (a env).bind fun x => (g x.1).map fun d => (d, x.2)
/-! ### names and constants -/
section
variable {X : Cx} {τ : Tau}
theorem de_const {e : Expr} {v : V} {d : D} (h : PE X e (tC v)) (r : ∀ F, Fz X.mg X.K F d v) : DE X τ e (eC d) .fz := by
  refine ⟨_, h, fun σ H F env fp Q S q => ?_⟩
  obtain ⟨d', env', e1, q⟩ := q
  cases e1
  exact q v H F fp [] S (.fz (r F)) .nil (Stp.refl.tofr)
theorem de_int {i : Int} {j pos} : DE X τ (.Constant (.int i) j pos) (eC (.int i)) .fz := de_const pe_int fun _ => .int i
theorem de_bl {b : Bool} {j pos} : DE X τ (.Constant (.bool b) j pos) (eC (.bl b)) .fz := de_const pe_bl fun _ => .bl b
theorem de_non {j pos} : DE X τ (.Constant .none j pos) (eC .non) .fz := de_const pe_non fun _ => .non
theorem de_str {x j pos} : DE X τ (.Constant (.str x) j pos) (eC (.str x)) .fz := de_const pe_str fun _ => .str x
theorem de_var (i : Nat) {x : Str} {pos : Pos} (hτ : tg τ i = .fz := by rfl) (hN : X.N[i]? = some x := by rfl) (hv : Vis X.env.scope x := by first | exact Or.inl rfl | exact Or.inr (Or.inl rfl) | exact Or.inr (Or.inr rfl)) (hd : (x == ("__debug__" : Str)) = false := by decide)
    (hcd : (x == ("__classdict__" : Str)) = false := by decide) : DE X τ (.Name x pos) (eV i) .fz := by
  refine ⟨_, pe_var hN hv hd hcd, fun σ H F env fp Q S q => ?_⟩
  obtain ⟨d', env', e1, q⟩ := q
  unfold eV at e1
  cases e2 : env[i]? with
  | none => rw [e2] at e1; cases e1
  | some z =>
    cases z with
    | none => rw [e2] at e1; cases e1
    | some z =>
      rw [e2] at e1
      cases e1
      obtain ⟨v, ev, r⟩ := S.rep i _ e2
      rw [hτ] at r
      exact ⟨v, ev, q v H F fp [] S (.fz r.fz_inv.1) .nil (Stp.refl.tofr)⟩
/-! ### operators by values -/
/-- what is wanted of an answer -/
abbrev Ans (X : Cx) (ρ : Ow) (H F : Hp) (d : D) (Q : VK) : Prop :=
  ∀ v H' F' fr, New H F H' F' → Rp X.mg X.K F' H' ρ d v fr → fr.Nodup → (∀ a ∈ fr, H a = none ∧ F' a = none) → Q v H'
/-- two frozen operands; the answer at ρ -/
def OpD (X : Cx) (r : R2) (g : D → D → Option D) (ρ : Ow) : Prop :=
  ∀ (H F : Hp) (x y : D) (vx vy : V) (d : D) (Q : VK), Same F H → Fz X.mg X.K F x vx → Fz X.mg X.K F y vy → g x y = some d → Ans X ρ H F d Q → r vx vy H Q
def UnD (X : Cx) (r : V → Hp → VK → Prop) (g : D → Option D) (ρ : Ow) : Prop :=
  ∀ (H F : Hp) (x : D) (vx : V) (d : D) (Q : VK), Same F H → Fz X.mg X.K F x vx → g x = some d → Ans X ρ H F d Q → r vx H Q
def CaD (X : Cx) (r : List V → Hp → VK → Prop) (g : List D → Option D) (ρ : Ow) : Prop :=
  ∀ (H F : Hp) (xs : List D) (vs : List V) (d : D) (Q : VK), Same F H → FzL X.mg X.K F xs vs → g xs = some d → Ans X ρ H F d Q → r vs H Q
/-- a readable operand: frozen, or a list that stands, its items frozen -/
def RdV (mg : Str → Option Value) (K : PySem.W.Frag) (F H : Hp) (d : D) (v : V) : Prop :=
  Fz mg K F d v ∨ ∃ a vs ds, d = .lst ds ∧ v = .ref a ∧ SqL K H a vs ∧ FzL mg K F ds vs
/-- behind a value's operation -/
theorem fin_new {mg : Str → Option Value} {K : PySem.W.Frag} {env : En} {σ : L2.St} {H0 F0 : Hp} {U0 : Addr → Prop} {H F H' F' : Hp} {fp : Fp} {fr : List Addr} (S : SO mg K τ env σ H F fp) (st : Stp H0 F0 U0 H F (UU fp)) (n : New H F H' F') (nd : fr.Nodup) (hf : ∀ a ∈ fr, H a = none ∧ F' a = none) :
    SO mg K τ env σ H' F' fp ∧ Frs F' fp fr ∧ Stp H0 F0 U0 H' F' (UF fp fr) := by
  refine ⟨S.new n, ⟨nd, fun a m => (hf a m).2, fun a m z => S.uthere z (hf a m).1⟩, ?_⟩
  refine st.trans ⟨fun a o e _ => n.hh a o e, n.ff, fun a o e => (n.nw a o e).elim .inl fun z => .inr (.inl z), fun a z => ?_⟩
  rcases z with z | z
  · exact .inl z
  · exact .inr (hf a z).1
theorem de_op {op : Operator} {r : R2} {g : D → D → Option D} {ρ : Ow} {a b : Expr} {fa fb : EX} {pos : Pos} (ho : OpR X (binaryOp op) r) (hg : OpD X r g ρ) (ha : DE X τ a fa .fz) (hb : DE X τ b fb .fz) : DE X τ (.BinOp a op b pos) (eB g fa fb) ρ := by
  obtain ⟨ta, pa, qa⟩ := ha.go
  obtain ⟨tb, pb, qb⟩ := hb.go
  refine ⟨_, pe_op ho pa pb, fun σ H F env fp Q S q => ?_⟩
  obtain ⟨d, env', e, q⟩ := q
  simp only [eB, Option.bind_eq_some_iff, Option.map_eq_some_iff] at e
  obtain ⟨⟨x, env1⟩, e1, ⟨y, env2⟩, e2, d', e3, e4⟩ := e
  cases e4
  refine qa σ H F env fp _ S ⟨x, env1, e1, fun vx H1 F1 fp1 fr1 S1 r1 f1 s1 => ?_⟩
  cases r1 with
  | fz r1 =>
  refine qb σ H1 F1 env1 fp1 _ S1 ⟨y, env2, e2, fun vy H2 F2 fp2 fr2 S2 r2 f2 s2 => ?_⟩
  cases r2 with
  | fz r2 =>
  refine hg H2 F2 x y vx vy d Q S2.fh (r1.mono s2.ff) r2 e3 fun v H' F' fr n rv nd hf => ?_
  obtain ⟨A, B, C⟩ := fin_new S2 (s1.nofr.trans s2.nofr) n nd hf
  exact q v H' F' fp2 fr A rv B C
theorem de_cmp {op : CmpOp} {r : R2} {g : D → D → Option D} {ρ : Ow} {a b : Expr} {fa fb : EX} {pos : Pos} (ho : OpR X (compareOp op) r) (hg : OpD X r g ρ) (ha : DE X τ a fa .fz) (hb : DE X τ b fb .fz) (hm : behindInMarks op b = false := by first | exact nomark _ | rfl) : DE X τ (.Compare a [op] [b] pos) (eB g fa fb) ρ := by
  obtain ⟨ta, pa, qa⟩ := ha.go
  obtain ⟨tb, pb, qb⟩ := hb.go
  refine ⟨_, pe_cmpR ho pa pb hm, fun σ H F env fp Q S q => ?_⟩
  obtain ⟨d, env', e, q⟩ := q
  simp only [eB, Option.bind_eq_some_iff, Option.map_eq_some_iff] at e
  obtain ⟨⟨x, env1⟩, e1, ⟨y, env2⟩, e2, d', e3, e4⟩ := e
  cases e4
  refine qa σ H F env fp _ S ⟨x, env1, e1, fun vx H1 F1 fp1 fr1 S1 r1 f1 s1 => ?_⟩
  cases r1 with
  | fz r1 =>
  refine qb σ H1 F1 env1 fp1 _ S1 ⟨y, env2, e2, fun vy H2 F2 fp2 fr2 S2 r2 f2 s2 => ?_⟩
  cases r2 with
  | fz r2 =>
  refine hg H2 F2 x y vx vy d Q S2.fh (r1.mono s2.ff) r2 e3 fun v H' F' fr n rv nd hf => ?_
  obtain ⟨A, B, C⟩ := fin_new S2 (s1.nofr.trans s2.nofr) n nd hf
  exact q v H' F' fp2 fr A rv B C
end
end DL
namespace DL
open PySem PySem.Spec PyProof.Rows L2
section
variable {X : Cx} {τ : Tau}
/-- a question that no check may unfold -/
noncomputable def ask (p : Prop) : Bool := @decide p (Classical.propDecidable p)
theorem ask_true {p : Prop} (h : p) : ask p = true := @decide_eq_true p (Classical.propDecidable p) h
theorem of_ask {p : Prop} (h : ask p = true) : p := @of_decide_eq_true p (Classical.propDecidable p) h
theorem ask_false {p : Prop} (h : ¬ p) : ask p = false := @decide_eq_false p (Classical.propDecidable p) h
noncomputable def big (n : Nat) : Bool := ask (16777216 < n)
theorem nbig {n : Nat} (h : ¬ big n = true) : n ≤ sizeLine := by
  rw [sizeLine_eq]; unfold big at h
  exact Nat.le_of_not_lt fun z => h (ask_true z)
theorem new_upd {H F : Hp} {p : Addr} {o : HO} (s : Same F H) (n : H p = none) : New H F (upd H p o) (upd F p o) := by
  have nf : F p = none := Same.free s n
  refine ⟨fun b x e => by rw [upd_ne (ne_of_none e n)]; exact e, fun b x e => by rw [upd_ne (ne_of_none e nf)]; exact e, fun b x e => ?_, fun b x e => ?_⟩
  · by_cases hb : b = p
    · subst hb; rw [upd_same] at e ⊢; exact e
    · rw [upd_ne hb] at e ⊢; exact s _ _ e
  · by_cases hb : b = p
    · subst hb; exact .inr n
    · rw [upd_ne hb] at e; exact .inl e
theorem new_own {H F : Hp} {p : Addr} {o : HO} (s : Same F H) (n : H p = none) : New H F (upd H p o) F :=
  ⟨fun b x e => by rw [upd_ne (ne_of_none e n)]; exact e, Same.refl _, fun b x e => by rw [upd_ne (ne_of_none (s _ _ e) n)]; exact s _ _ e, fun _ _ e => .inl e⟩
/-! ### the forms of an answer -/
theorem ans_here {H F : Hp} {d : D} {Q : VK} {v : V} (q : Ans X .fz H F d Q) (s : Same F H) (h : Fz X.mg X.K F d v) : Q v H :=
  q v H F [] (New.refl s) (.fz h) List.nodup_nil (by simp)
theorem ans_tup {H F : Hp} {ds : List D} {Q : VK} {vs : List V} (q : Ans X .fz H F (.tup ds) Q) (s : Same F H) (h : FzL X.mg X.K F ds vs) {p : Addr} {o : Obj} (np : H p = none) (ho : o.dict = none) : Q (.ref p) (upd H p (.frz o (.tup vs))) :=
  q _ _ _ [] (new_upd s np) (.fz (.tup (.inl ⟨o, upd_same, ho⟩) (h.mono (new_upd s np).ff))) List.nodup_nil (by simp)
theorem ans_lst {H F : Hp} {ds : List D} {Q : VK} {vs : List V} (q : Ans X .fz H F (.lst ds) Q) (s : Same F H) (h : FzL X.mg X.K F ds vs) {p : Addr} (np : H p = none) : Q (.ref p) (upd H p (.lst vs)) :=
  q _ _ _ [] (new_upd s np) (.fz (.lst upd_same (h.mono (new_upd s np).ff))) List.nodup_nil (by simp)
theorem ans_own {H F : Hp} {ds : List D} {Q : VK} {vs : List V} (q : Ans X (.ls .fz) H F (.lst ds) Q) (s : Same F H) (h : FzL X.mg X.K F ds vs) {p : Addr} (np : H p = none) : Q (.ref p) (upd H p (.lst vs)) :=
  q _ _ _ [p] (new_own s np) (.ls upd_same (RpL.of_fzl h)) (by simp) (by simp [np, Same.free s np])
/-- a new list, frozen or one's own -/
inductive FO : Ow → Prop
  | fz : FO .fz
  | ls : FO (.ls .fz)
theorem ans_fo {ρ : Ow} (fo : FO ρ) {H F : Hp} {ds : List D} {Q : VK} {vs : List V} (q : Ans X ρ H F (.lst ds) Q) (s : Same F H) (h : FzL X.mg X.K F ds vs) {p : Addr} (np : H p = none) : Q (.ref p) (upd H p (.lst vs)) := by
  cases fo with
  | fz => exact ans_lst q s h np
  | ls => exact ans_own q s h np
/-! ### + -/
noncomputable def gAdd : D → D → Option D
  | .int i, .int j => some (.int (i + j))
  | .str x, .str y => if big (x.length + y.length) = true then none else some (.str (x ++ y))
  | .tup xs, .tup ys => if big (xs.length + ys.length) = true then none else some (.tup (xs ++ ys))
  | _, _ => none
noncomputable def rAdd3 (K : PySem.W.Frag) : R2 := fun x y H Q => (rI0 fun i j => .int (i + j)) x y H Q ∨ (fun x y H Q => ∃ i j, x = .str i ∧ y = .str j ∧ i.length + j.length ≤ sizeLine ∧ Q (.str (i ++ j)) H) x y H Q ∨ rCatF K x y H Q
theorem op_add3 : OpR X (binaryOp .Add) (rAdd3 X.K) := op_add.or (op_add_str.or op_catF)
theorem og_add : OpD X (rAdd3 X.K) gAdd .fz := by
  intro H F x y vx vy d Q s hx hy e q
  unfold gAdd at e
  split at e
  · cases hx; cases hy; cases e
    exact .inl ⟨_, _, rfl, rfl, ans_here q s (.int _)⟩
  · cases hx; cases hy
    split at e
    · cases e
    · rename_i hb
      cases e
      exact .inr (.inl ⟨_, _, rfl, rfl, nbig hb, ans_here q s (.str _)⟩)
  · cases hx with
    | tup hx hxs =>
    cases hy with
    | tup hy hys =>
    split at e
    · cases e
    · rename_i hb
      cases e
      refine .inr (.inr ⟨_, _, _, _, rfl, rfl, (Same.seqD s hx).toT, (Same.seqD s hy).toT, by rw [← hxs.length, ← hys.length]; exact nbig hb, fun e => ?_, fun e e2 => ?_, fun _ _ p o np ho => ans_tup q s (hxs.append hys) np ho⟩)
      · subst e; cases hxs
        exact ans_here q s (.tup hy (by simpa using hys))
      · subst e2; cases hys
        exact ans_here q s (.tup hx (by simpa using hxs))
  · cases e
/-- two lists -/
noncomputable def gCat : D → D → Option D
  | .lst xs, .lst ys => if big (xs.length + ys.length) = true then none else some (.lst (xs ++ ys))
  | _, _ => none
theorem og_cat {ρ : Ow} (fo : FO ρ) : OpD X rCat gCat ρ := by
  intro H F x y vx vy d Q s hx hy e q
  unfold gCat at e
  split at e
  · cases hx with
    | lst hx hxs =>
    cases hy with
    | lst hy hys =>
    split at e
    · cases e
    · rename_i hb
      cases e
      exact ⟨_, _, _, _, rfl, rfl, s _ _ hx, s _ _ hy, by rw [← hxs.length, ← hys.length]; exact nbig hb, fun p np => ans_fo fo q s (hxs.append hys) np⟩
  · cases e
noncomputable def gRep : D → D → Option D
  | .lst xs, .int k => if 0 ≤ k ∧ k < 1048576 ∧ ¬ big (xs.length * k.toNat) = true then some (.lst (List.replicate k.toNat xs).flatten) else none
  | _, _ => none
theorem FzL.rep {mg : Str → Option Value} {K : PySem.W.Frag} {F : Hp} {ds : List D} {vs : List V} (h : FzL mg K F ds vs) : ∀ k : Nat, FzL mg K F (List.replicate k ds).flatten (List.replicate k vs).flatten
  | 0 => .nil
  | k + 1 => by rw [List.replicate_succ, List.replicate_succ, List.flatten_cons, List.flatten_cons]; exact h.append (FzL.rep h k)
theorem og_rep {ρ : Ow} (fo : FO ρ) : OpD X rRep gRep ρ := by
  intro H F x y vx vy d Q s hx hy e q
  unfold gRep at e
  split at e
  · cases hx with
    | lst hx hxs =>
    cases hy
    split at e
    · rename_i hb
      cases e
      exact ⟨_, _, _, rfl, rfl, s _ _ hx, by omega, by omega, by rw [← hxs.length]; exact nbig hb.2.2, fun p np => ans_fo fo q s (hxs.rep _) np⟩
    · cases e
  · cases e
/-! ### numbers -/
noncomputable def gI (f : Int → Int → Int) : D → D → Option D
  | .int i, .int j => some (.int (f i j))
  | _, _ => none
noncomputable def gIf (c : Int → Int → Bool) (f : Int → Int → Int) : D → D → Option D
  | .int i, .int j => if c i j = true then some (.int (f i j)) else none
  | _, _ => none
theorem og_int0 {f : Int → Int → Int} : OpD X (rI0 fun i j => .int (f i j)) (gI f) .fz := by
  intro H F x y vx vy d Q s hx hy e q
  unfold gI at e
  split at e
  · cases hx; cases hy; cases e
    exact ⟨_, _, rfl, rfl, ans_here q s (.int _)⟩
  · cases e
theorem og_intC {C : Int → Int → Prop} {c : Int → Int → Bool} {f : Int → Int → Int} (hc : ∀ i j, c i j = true → C i j) : OpD X (rI C fun i j => .int (f i j)) (gIf c f) .fz := by
  intro H F x y vx vy d Q s hx hy e q
  unfold gIf at e
  split at e
  · split at e
    · rename_i hb
      cases hx; cases hy; cases e
      exact ⟨_, _, rfl, rfl, hc _ _ hb, ans_here q s (.int _)⟩
    · cases e
  · cases e
theorem og_sub : OpD X (rI0 fun i j => .int (i - j)) (gI fun i j => i - j) .fz := og_int0
noncomputable def cMul (i j : Int) : Bool := ask (-18446744073709551616 < i ∧ i < 18446744073709551616 ∨ -18446744073709551616 < j ∧ j < 18446744073709551616)
theorem og_mul : OpD X (rI CMul fun i j => .int (i * j)) (gIf cMul fun i j => i * j) .fz := og_intC fun i j h => by
  have := of_ask h
  exact this
noncomputable def cDiv (_ j : Int) : Bool := ask (0 < j ∧ j < 1073741824)
theorem og_div : OpD X (rI CDiv fun i j => .int (i / j)) (gIf cDiv fun i j => i / j) .fz := og_intC fun i j h => (of_ask h : 0 < j ∧ j < 1073741824)
noncomputable def cMod (_ j : Int) : Bool := ask (0 < j)
theorem og_mod : OpD X (rI (fun _ j => 0 < j) fun i j => .int (i % j)) (gIf cMod fun i j => i % j) .fz := og_intC fun i j h => of_ask h
noncomputable def cPow (i j : Int) : Bool := ask (0 ≤ j ∧ j ≤ 1000000 ∧ i.natAbs < 18446744073709551616)
theorem og_pow : OpD X (rI CPow fun i j => .int (i ^ j.toNat)) (gIf cPow fun i j => i ^ j.toNat) .fz := og_intC fun i j h => (of_ask h : 0 ≤ j ∧ j ≤ 1000000 ∧ i.natAbs < 18446744073709551616)
noncomputable def gNeg : D → Option D
  | .int i => some (.int (-i))
  | _ => none
theorem ug_neg : UnD X (rU fun i => .int (-i)) gNeg .fz := by
  intro H F x vx d Q s hx e q
  unfold gNeg at e
  split at e
  · cases hx; cases e
    exact ⟨_, rfl, ans_here q s (.int _)⟩
  · cases e
/-! ### comparisons -/
noncomputable def gC (p : Int → Int → Bool) : D → D → Option D
  | .int i, .int j => some (.bl (p i j))
  | _, _ => none
theorem og_cmp {p : Int → Int → Bool} : OpD X (rI0 fun i j => .bl (p i j)) (gC p) .fz := by
  intro H F x y vx vy d Q s hx hy e q
  unfold gC at e
  split at e
  · cases hx; cases hy; cases e
    exact ⟨_, _, rfl, rfl, ans_here q s (.bl _)⟩
  · cases e
theorem og_lt : OpD X (rI0 fun i j => .bl (decide (i < j))) (gC fun i j => decide (i < j)) .fz := og_cmp
theorem og_le : OpD X (rI0 fun i j => .bl (decide (i ≤ j))) (gC fun i j => decide (i ≤ j)) .fz := og_cmp
theorem og_gt : OpD X (rI0 fun i j => .bl (decide (j < i))) (gC fun i j => decide (j < i)) .fz := og_cmp
theorem og_ge : OpD X (rI0 fun i j => .bl (decide (j ≤ i))) (gC fun i j => decide (j ≤ i)) .fz := og_cmp
noncomputable def gIsN : D → D → Option D
  | .non, .non => some (.bl true)
  | _, .non => some (.bl false)
  | _, _ => none
noncomputable def gNotN : D → D → Option D
  | .non, .non => some (.bl false)
  | _, .non => some (.bl true)
  | _, _ => none
theorem og_isN : OpD X (fun x y H Q => y = .non ∧ Q (.bl (decide (x = .non))) H) gIsN .fz := by
  intro H F x y vx vy d Q s hx hy e q
  unfold gIsN at e
  split at e
  · cases hx; cases hy; cases e
    exact ⟨rfl, ans_here q s (.bl _)⟩
  · rename_i hn
    cases hy; cases e
    refine ⟨rfl, ?_⟩
    have : decide (vx = V.non) = false := by
      refine decide_eq_false fun z => ?_
      subst z; cases hx; exact hn rfl
    rw [this]
    exact ans_here q s (.bl _)
  · cases e
theorem og_notN : OpD X (fun x y H Q => y = .non ∧ Q (.bl (!decide (x = .non))) H) gNotN .fz := by
  intro H F x y vx vy d Q s hx hy e q
  unfold gNotN at e
  split at e
  · cases hx; cases hy; cases e
    exact ⟨rfl, ans_here q s (.bl _)⟩
  · rename_i hn
    cases hy; cases e
    refine ⟨rfl, ?_⟩
    have : decide (vx = V.non) = false := by
      refine decide_eq_false fun z => ?_
      subst z; cases hx; exact hn rfl
    rw [this]
    exact ans_here q s (.bl _)
  · cases e
/-! ### == of data -/
mutual
/-- data of None, bools, ints, texts, lists, tuples -/
noncomputable def py : D → Option PyData
  | .non => some .none
  | .bl b => some (.bool b)
  | .int i => some (.int i)
  | .str s => some (.str s)
  | .tup xs => (pyL xs).map .tuple
  | .lst xs => (pyL xs).map .list
  | .dic _ => none
  | .dit _ => none
  | .ins _ _ => none
  | .raw _ => none
noncomputable def pyL : List D → Option (List PyData)
  | [] => some []
  | d :: ds => (py d).bind fun x => (pyL ds).map fun xs => x :: xs
end
mutual
theorem py_dp {F H : Hp} (s : Same F H) : ∀ {d : D} {v : V} {p : PyData}, Fz X.mg X.K F d v → py d = some p → Dp X.K H v p
  | _, _, _, .non, e => by cases e; exact .non
  | _, _, _, .bl b, e => by cases e; exact .bl b
  | _, _, _, .int i, e => by cases e; exact .int i
  | _, _, _, .str x, e => by cases e; exact .str x
  | _, _, _, .tup h hs, e => by
    simp only [py, Option.map_eq_some_iff] at e
    obtain ⟨q, e, rfl⟩ := e
    exact .tup (Same.seqD s h).toT (pyL_dp s hs e)
  | _, _, _, .lst h hs, e => by
    simp only [py, Option.map_eq_some_iff] at e
    obtain ⟨q, e, rfl⟩ := e
    exact .lst (SqL.of (s _ _ h)) (pyL_dp s hs e)
  | _, _, _, .dic _ _, e => by simp [py] at e
  | _, _, _, .dit _ _, e => by simp [py] at e
  | _, _, _, .ins _ _ _ _, e => by simp [py] at e
  | _, _, _, .raw _ _, e => by simp [py] at e
theorem pyL_dp {F H : Hp} (s : Same F H) : ∀ {d : List D} {v : List V} {p : List PyData}, FzL X.mg X.K F d v → pyL d = some p → DpAll X.K H v p
  | _, _, _, .nil, e => by simp [pyL] at e; subst e; exact .nil
  | _, _, _, .cons h hs, e => by
    simp only [pyL, Option.bind_eq_some_iff, Option.map_eq_some_iff] at e
    obtain ⟨x, e1, xs, e2, rfl⟩ := e
    exact .cons (py_dp s h e1) (pyL_dp s hs e2)
end
noncomputable def gEq (x y : D) : Option D := (py x).bind fun a => (py y).bind fun b => if SeqAt.shaped a = true ∧ SeqAt.shaped b = true then some (.bl (PyData.eqv a b)) else none
noncomputable def gNe (x y : D) : Option D := (py x).bind fun a => (py y).bind fun b => if SeqAt.shaped a = true ∧ SeqAt.shaped b = true then some (.bl (!PyData.eqv a b)) else none
theorem og_eq : OpD X (rEqD X.K) gEq .fz := by
  intro H F x y vx vy d Q s hx hy e q
  simp only [gEq, Option.bind_eq_some_iff] at e
  obtain ⟨a, e1, b, e2, e⟩ := e
  split at e
  · rename_i hs
    cases e
    exact ⟨a, b, py_dp s hx e1, py_dp s hy e2, hs.1, hs.2, ans_here q s (.bl _)⟩
  · cases e
theorem og_ne : OpD X (rNeD X.K) gNe .fz := by
  intro H F x y vx vy d Q s hx hy e q
  simp only [gNe, Option.bind_eq_some_iff] at e
  obtain ⟨a, e1, b, e2, e⟩ := e
  split at e
  · rename_i hs
    cases e
    exact ⟨a, b, py_dp s hx e1, py_dp s hy e2, hs.1, hs.2, ans_here q s (.bl _)⟩
  · cases e
/-! ### subscripts of frozen things -/
noncomputable def gIx : D → D → Option D
  | .tup xs, .int i => atI xs i
  | .lst xs, .int i => atI xs i
  | .str z, .int i => if big z.length = true then none else (atI z.cps.toList i).map fun c => .str ⟨#[c]⟩
  | _, _ => none
theorem atI_fz {mg : Str → Option Value} {K : PySem.W.Frag} {F : Hp} {ds : List D} {vs : List V} {i : Int} {d : D} (h : FzL mg K F ds vs) (e : atI ds i = some d) : ∃ v, atI vs i = some v ∧ Fz mg K F d v := by
  unfold atI at e ⊢
  rw [← h.length]
  cases q : ixN ds.length i with
  | none => rw [q] at e; cases e
  | some j =>
    rw [q] at e
    obtain ⟨v, e1, r⟩ := h.get (i := j) e
    exact ⟨v, e1, r⟩
theorem og_ix : OpD X (rIx X.K) gIx .fz := by
  intro H F x y vx vy d Q s hx hy e q
  unfold gIx at e
  split at e
  · cases hy
    cases hx with
    | tup hx hxs =>
    obtain ⟨v, e1, r⟩ := atI_fz hxs e
    exact .inr (.inl ⟨_, _, _, v, rfl, rfl, (Same.seqD s hx).toT, e1, ans_here q s r⟩)
  · cases hy
    cases hx with
    | lst hx hxs =>
    obtain ⟨v, e1, r⟩ := atI_fz hxs e
    exact .inl ⟨_, _, _, v, rfl, rfl, SqL.of (s _ _ hx), e1, ans_here q s r⟩
  · cases hy; cases hx
    split at e
    · cases e
    · rename_i hb
      simp only [Option.map_eq_some_iff] at e
      obtain ⟨c, e1, rfl⟩ := e
      exact .inr (.inr ⟨_, _, c, rfl, rfl, nbig hb, e1, ans_here q s (.str _)⟩)
  · cases e
theorem de_ix {r : R2} {g : D → D → Option D} {ρ : Ow} {a b : Expr} {fa fb : EX} {pos : Pos} (ho : IxR X r) (hg : OpD X r g ρ) (ha : DE X τ a fa .fz) (hb : DE X τ b fb .fz) (hp : PlainIx b := by intro _ _; rfl) : DE X τ (.Subscript a b pos) (eB g fa fb) ρ := by
  obtain ⟨ta, pa, qa⟩ := ha.go
  obtain ⟨tb, pb, qb⟩ := hb.go
  refine ⟨_, pe_ix ho pa pb hp, fun σ H F env fp Q S q => ?_⟩
  obtain ⟨d, env', e, q⟩ := q
  simp only [eB, Option.bind_eq_some_iff, Option.map_eq_some_iff] at e
  obtain ⟨⟨x, env1⟩, e1, ⟨y, env2⟩, e2, d', e3, e4⟩ := e
  cases e4
  refine qa σ H F env fp _ S ⟨x, env1, e1, fun vx H1 F1 fp1 fr1 S1 r1 f1 s1 => ?_⟩
  obtain ⟨z1, rfl⟩ := r1.fz_inv
  refine qb σ H1 F1 env1 fp1 _ S1 ⟨y, env2, e2, fun vy H2 F2 fp2 fr2 S2 r2 f2 s2 => ?_⟩
  obtain ⟨z2, rfl⟩ := r2.fz_inv
  refine hg H2 F2 x y vx vy d Q S2.fh (z1.mono s2.ff) z2 e3 fun v H' F' fr n rv nd hf => ?_
  obtain ⟨A, B, C⟩ := fin_new S2 (s1.nofr.trans s2.nofr) n nd hf
  exact q v H' F' fp2 fr A rv B C
theorem de_un {op : UnaryOp} {r : V → Hp → VK → Prop} {g : D → Option D} {ρ : Ow} {a : Expr} {fa : EX} {pos : Pos} (ho : UnR X (unaryOp op) r) (hg : UnD X r g ρ) (ha : DE X τ a fa .fz) : DE X τ (.UnaryOp op a pos) (eU g fa) ρ := by
  obtain ⟨ta, pa, qa⟩ := ha.go
  refine ⟨_, pe_un ho pa, fun σ H F env fp Q S q => ?_⟩
  obtain ⟨d, env', e, q⟩ := q
  simp only [eU, Option.bind_eq_some_iff, Option.map_eq_some_iff] at e
  obtain ⟨⟨x, env1⟩, e1, d', e3, e4⟩ := e
  cases e4
  refine qa σ H F env fp _ S ⟨x, env1, e1, fun vx H1 F1 fp1 fr1 S1 r1 f1 s1 => ?_⟩
  obtain ⟨z1, rfl⟩ := r1.fz_inv
  refine hg H1 F1 x vx d Q S1.fh z1 e3 fun v H' F' fr n rv nd hf => ?_
  obtain ⟨A, B, C⟩ := fin_new S1 s1.nofr n nd hf
  exact q v H' F' fp1 fr A rv B C
/-! ### arguments; built-ins; tuples and lists -/
theorem da_nil : DA X τ [] aN := ⟨_, pa_nil, fun σ H F env fp Q S q => by
  obtain ⟨ds, env', e, q⟩ := q
  cases e
  exact q [] H F fp S .nil Stp.refl⟩
theorem da_cons {e : Expr} {es : List Expr} {f : EX} {g : AX} (ha : DE X τ e f .fz) (hr : DA X τ es g) (hs : starEach (e :: es) X.env = (false, eval e X.env) :: starEach es X.env := by rfl) : DA X τ (e :: es) (aC f g) := by
  obtain ⟨ta, pa, qa⟩ := ha.go
  obtain ⟨tr, pr, qr⟩ := hr.go
  refine ⟨_, pa_cons pa pr hs, fun σ H F env fp Q S q => ?_⟩
  obtain ⟨ds, env', e, q⟩ := q
  simp only [aC, Option.bind_eq_some_iff, Option.map_eq_some_iff] at e
  obtain ⟨⟨x, env1⟩, e1, ⟨xs, env2⟩, e2, e4⟩ := e
  cases e4
  refine qa σ H F env fp _ S ⟨x, env1, e1, fun vx H1 F1 fp1 fr1 S1 r1 f1 s1 => ?_⟩
  obtain ⟨z1, rfl⟩ := r1.fz_inv
  refine qr σ H1 F1 env1 fp1 _ S1 ⟨xs, env2, e2, fun vs H2 F2 fp2 S2 r2 s2 => ?_⟩
  exact q (vx :: vs) H2 F2 fp2 S2 (.cons (z1.mono s2.ff) r2) (s1.nofr.trans s2)
noncomputable def aStar (f : EX) (g : AX) : AX := fun env => (f env).bind fun x => match x.1 with
  | .lst xs => (g x.2).map fun y => (xs ++ y.1, y.2)
  | .tup xs => (g x.2).map fun y => (xs ++ y.1, y.2)
  | _ => none
theorem da_star {e : Expr} {es : List Expr} {f : EX} {g : AX} {p : Pos} (ha : DE X τ e f .fz) (hr : DA X τ es g) (hs : starEach (.Starred e p :: es) X.env = (true, eval e X.env) :: starEach es X.env := by rfl) :
    DA X τ (.Starred e p :: es) (aStar f g) := by
  obtain ⟨ta, pa, qa⟩ := ha.go
  obtain ⟨tr, pr, qr⟩ := hr.go
  refine ⟨_, StX.pa_star pa pr hs, fun σ H F env fp Q S q => ?_⟩
  obtain ⟨ds, env', e, q⟩ := q
  simp only [aStar, Option.bind_eq_some_iff] at e
  obtain ⟨⟨x, env1⟩, e1, e⟩ := e
  refine qa σ H F env fp _ S ⟨x, env1, e1, fun vx H1 F1 fp1 fr1 S1 r1 f1 s1 => ?_⟩
  obtain ⟨z1, rfl⟩ := r1.fz_inv
  cases x with
  | lst xs =>
    simp only [Option.map_eq_some_iff] at e
    obtain ⟨⟨ys, env2⟩, e2, e4⟩ := e
    cases e4
    cases z1 with
    | lst h hs =>
    refine ⟨_, _, rfl, .inr (SqL.of (S1.fh _ _ h)), ?_⟩
    refine qr σ H1 F1 env1 fp1 _ S1 ⟨ys, env2, e2, fun vs H2 F2 fp2 S2 r2 s2 => ?_⟩
    exact q _ H2 F2 fp2 S2 ((hs.mono s2.ff).append r2) (s1.nofr.trans s2)
  | tup xs =>
    simp only [Option.map_eq_some_iff] at e
    obtain ⟨⟨ys, env2⟩, e2, e4⟩ := e
    cases e4
    cases z1 with
    | tup h hs =>
    refine ⟨_, _, rfl, .inl (Same.seqD S1.fh h).toT, ?_⟩
    refine qr σ H1 F1 env1 fp1 _ S1 ⟨ys, env2, e2, fun vs H2 F2 fp2 S2 r2 s2 => ?_⟩
    exact q _ H2 F2 fp2 S2 ((hs.mono s2.ff).append r2) (s1.nofr.trans s2)
  | _ => cases e
noncomputable def gTup (xs : List D) : Option D := if big xs.length = true then none else some (.tup xs)
noncomputable def gLst (xs : List D) : Option D := if big xs.length = true then none else some (.lst xs)
theorem de_tup {es : List Expr} {f : AX} {k : Nat} {pos : Pos} (h : DA X τ es f) : DE X τ (.Tuple es k pos) (eA gTup f) .fz := by
  obtain ⟨ta, pa, qa⟩ := h.go
  refine ⟨_, pe_tupF pa, fun σ H F env fp Q S q => ?_⟩
  obtain ⟨d, env', e, q⟩ := q
  simp only [eA, gTup, Option.bind_eq_some_iff, Option.map_eq_some_iff] at e
  obtain ⟨⟨xs, env1⟩, e1, d', e2, e4⟩ := e
  cases e4
  split at e2
  · cases e2
  rename_i hb
  cases e2
  refine qa σ H F env fp _ S ⟨xs, env1, e1, fun vs H1 F1 fp1 S1 r1 s1 => ⟨by rw [← r1.length]; exact nbig hb, fun p o np ho => ?_⟩⟩
  refine ans_tup (X := X) (F := F1) (fun v H' F' fr n rv nd hf => ?_) S1.fh r1 np ho
  obtain ⟨A, B, C⟩ := fin_new S1 s1 n nd hf
  exact q v H' F' fp1 fr A rv B C
theorem de_lst {ρ : Ow} (fo : FO ρ) {es : List Expr} {f : AX} {pos : Pos} (h : DA X τ es f) : DE X τ (.List es pos) (eA gLst f) ρ := by
  obtain ⟨ta, pa, qa⟩ := h.go
  refine ⟨_, pe_lst pa, fun σ H F env fp Q S q => ?_⟩
  obtain ⟨d, env', e, q⟩ := q
  simp only [eA, gLst, Option.bind_eq_some_iff, Option.map_eq_some_iff] at e
  obtain ⟨⟨xs, env1⟩, e1, d', e2, e4⟩ := e
  cases e4
  split at e2
  · cases e2
  rename_i hb
  cases e2
  refine qa σ H F env fp _ S ⟨xs, env1, e1, fun vs H1 F1 fp1 S1 r1 s1 => ⟨by rw [← r1.length]; exact nbig hb, fun p np => ?_⟩⟩
  refine ans_fo (X := X) (F := F1) fo (fun v H' F' fr n rv nd hf => ?_) S1.fh r1 np
  obtain ⟨A, B, C⟩ := fin_new S1 s1 n nd hf
  exact q v H' F' fp1 fr A rv B C
theorem de_callB {x : Str} {p pos : Pos} {id : String} {r : List V → Hp → VK → Prop} {g : List D → Option D} {ρ : Ow} {e : Expr} {es : List Expr} {f : AX} (hc : CallR X (.builtin id) r) (hg : CaD X r g ρ) (hv : bootBuiltins x = some (.builtin id)) (hm : X.mg x = none) (ha : DA X τ (e :: es) f) (hgl : Gl X x := by rfl) (hn : x ≠ "__name__" := by decide)
    (hdb : (x == ("__debug__" : Str)) = false := by decide) (he : starEach (e :: es) X.env = (false, eval e X.env) :: starEach es X.env := by rfl) (hpl : (backTo pos (starEach es X.env)).any (·.1) = false := by rfl) : DE X τ (.Call (.Name x p) (e :: es) [] pos) (eA g f) ρ := by
  obtain ⟨ta, pa, qa⟩ := ha.go
  refine ⟨_, pe_callB hc hgl hm hv pa hn hdb he hpl, fun σ H F env fp Q S q => ?_⟩
  obtain ⟨d, env', e, q⟩ := q
  simp only [eA, Option.bind_eq_some_iff, Option.map_eq_some_iff] at e
  obtain ⟨⟨xs, env1⟩, e1, d', e2, e4⟩ := e
  cases e4
  refine qa σ H F env fp _ S ⟨xs, env1, e1, fun vs H1 F1 fp1 S1 r1 s1 => ?_⟩
  refine hg H1 F1 xs vs d Q S1.fh r1 e2 fun v H' F' fr n rv nd hf => ?_
  obtain ⟨A, B, C⟩ := fin_new S1 s1 n nd hf
  exact q v H' F' fp1 fr A rv B C
theorem de_callTy {x : Str} {p pos : Pos} {T : String} {r : List V → Hp → VK → Prop} {g : List D → Option D} {ρ : Ow} {e : Expr} {es : List Expr} {f : AX} (hc : CallR X (.type T) r) (hg : CaD X r g ρ) (hv : bootBuiltins x = some (.type T)) (hm : X.mg x = none) (ha : DA X τ (e :: es) f) (hgl : Gl X x := by rfl) (hn : x ≠ "__name__" := by decide)
    (hdb : (x == ("__debug__" : Str)) = false := by decide) (he : starEach (e :: es) X.env = (false, eval e X.env) :: starEach es X.env := by rfl) (hpl : (backTo pos (starEach es X.env)).any (·.1) = false := by rfl) : DE X τ (.Call (.Name x p) (e :: es) [] pos) (eA g f) ρ := by
  obtain ⟨ta, pa, qa⟩ := ha.go
  refine ⟨_, pe_callTy hc hgl hm hv pa hn hdb he hpl, fun σ H F env fp Q S q => ?_⟩
  obtain ⟨d, env', e, q⟩ := q
  simp only [eA, Option.bind_eq_some_iff, Option.map_eq_some_iff] at e
  obtain ⟨⟨xs, env1⟩, e1, d', e2, e4⟩ := e
  cases e4
  refine qa σ H F env fp _ S ⟨xs, env1, e1, fun vs H1 F1 fp1 S1 r1 s1 => ?_⟩
  refine hg H1 F1 xs vs d Q S1.fh r1 e2 fun v H' F' fr n rv nd hf => ?_
  obtain ⟨A, B, C⟩ := fin_new S1 s1 n nd hf
  exact q v H' F' fp1 fr A rv B C
/-! ### tests -/
theorem dt_val {e : Expr} {f : EX} (h : DE X τ e f .fz) (he : ∀ whole, isTrue e X.env whole = (do let v ← whole; standAt e.pos; holding [v] (truthy v)) := by intro _; rfl) : DT X τ e (bT f) := by
  obtain ⟨ta, pa, qa⟩ := h.go
  refine ⟨_, pt_val pa he, fun σ H F env fp Q S q => ?_⟩
  obtain ⟨d, env', e, q⟩ := q
  simp only [bT, Option.bind_eq_some_iff] at e
  obtain ⟨⟨x, env1⟩, e1, e⟩ := e
  refine qa σ H F env fp _ S ⟨x, env1, e1, fun vx H1 F1 fp1 fr1 S1 r1 f1 s1 => ?_⟩
  obtain ⟨z1, rfl⟩ := r1.fz_inv
  cases x with
  | bl c =>
    cases e
    cases z1
    exact ⟨_, rfl, q H1 F1 fp1 S1 s1.nofr⟩
  | _ => cases e
theorem dt_cmp {op : CmpOp} {r : R2} {g : D → D → Option D} {a b : Expr} {fa fb : EX} {pos : Pos} (ho : OpR X (compareOp op) r) (hg : OpD X r g .fz) (ha : DE X τ a fa .fz) (hb : DE X τ b fb .fz) (hm : behindInMarks op b = false := by first | exact nomark _ | rfl) : DT X τ (.Compare a [op] [b] pos) (bT (eB g fa fb)) := by
  obtain ⟨ta, pa, qa⟩ := ha.go
  obtain ⟨tb, pb, qb⟩ := hb.go
  refine ⟨_, pt_cmpR ho pa pb hm, fun σ H F env fp Q S q => ?_⟩
  obtain ⟨c, env', e, q⟩ := q
  simp only [bT, eB, Option.bind_eq_some_iff, Option.map_eq_some_iff] at e
  obtain ⟨⟨d, env3⟩, ⟨⟨x, env1⟩, e1, ⟨y, env2⟩, e2, d', e3, e4⟩, e5⟩ := e
  cases e4
  refine qa σ H F env fp _ S ⟨x, env1, e1, fun vx H1 F1 fp1 fr1 S1 r1 f1 s1 => ?_⟩
  obtain ⟨z1, rfl⟩ := r1.fz_inv
  refine qb σ H1 F1 env1 fp1 _ S1 ⟨y, env2, e2, fun vy H2 F2 fp2 fr2 S2 r2 f2 s2 => ?_⟩
  obtain ⟨z2, rfl⟩ := r2.fz_inv
  refine hg H2 F2 x y vx vy d _ S2.fh (z1.mono s2.ff) z2 e3 fun v H' F' fr n rv nd hf => ?_
  obtain ⟨A, B, C⟩ := fin_new S2 (s1.nofr.trans s2.nofr) n nd hf
  obtain ⟨zv, rfl⟩ := rv.fz_inv
  cases d with
  | bl k =>
    cases e5
    cases zv
    exact ⟨_, rfl, q H' F' fp2 A C.nofr⟩
  | _ => cases e5
theorem dw_and1 {a : Expr} {fa : BX} {pos : Pos} (ha : DT X τ a fa) : DW X τ (.BoolOp .And [a] pos) fa := by
  obtain ⟨ta, pa, qa⟩ := ha.go
  exact ⟨_, pw_and1 pa, qa⟩
theorem dw_or1 {a : Expr} {fa : BX} {pos : Pos} (ha : DT X τ a fa) : DW X τ (.BoolOp .Or [a] pos) fa := by
  obtain ⟨ta, pa, qa⟩ := ha.go
  exact ⟨_, pw_or1 pa, qa⟩
theorem dw_and {a b : Expr} {rest : List Expr} {fa fb : BX} {pos : Pos} (ha : DT X τ a fa) (hb : DW X τ (.BoolOp .And (b :: rest) pos) fb) : DW X τ (.BoolOp .And (a :: b :: rest) pos) (bAnd fa fb) := by
  obtain ⟨ta, pa, qa⟩ := ha.go
  obtain ⟨tb, pb, qb⟩ := hb.go
  refine ⟨_, pw_and pa pb, fun σ H F env fp Q S q => ?_⟩
  obtain ⟨c, env', e, q⟩ := q
  simp only [bAnd, Option.bind_eq_some_iff] at e
  obtain ⟨⟨x, env1⟩, e1, e⟩ := e
  refine qa σ H F env fp _ S ⟨x, env1, e1, fun H1 F1 fp1 S1 s1 => ?_⟩
  cases x with
  | true =>
    refine qb σ H1 F1 env1 fp1 _ S1 ⟨c, env', e, fun H2 F2 fp2 S2 s2 => q H2 F2 fp2 S2 (s1.trans s2)⟩
  | false =>
    cases e
    exact q H1 F1 fp1 S1 s1
theorem dw_or {a b : Expr} {rest : List Expr} {fa fb : BX} {pos : Pos} (ha : DT X τ a fa) (hb : DW X τ (.BoolOp .Or (b :: rest) pos) fb) : DW X τ (.BoolOp .Or (a :: b :: rest) pos) (bOr fa fb) := by
  obtain ⟨ta, pa, qa⟩ := ha.go
  obtain ⟨tb, pb, qb⟩ := hb.go
  refine ⟨_, pw_or pa pb, fun σ H F env fp Q S q => ?_⟩
  obtain ⟨c, env', e, q⟩ := q
  simp only [bOr, Option.bind_eq_some_iff] at e
  obtain ⟨⟨x, env1⟩, e1, e⟩ := e
  refine qa σ H F env fp _ S ⟨x, env1, e1, fun H1 F1 fp1 S1 s1 => ?_⟩
  cases x with
  | false =>
    refine qb σ H1 F1 env1 fp1 _ S1 ⟨c, env', e, fun H2 F2 fp2 S2 s2 => q H2 F2 fp2 S2 (s1.trans s2)⟩
  | true =>
    cases e
    exact q H1 F1 fp1 S1 s1
theorem dt_w {e : Expr} {f : BX} (h : DW X τ e f) : DT X τ e f := by
  obtain ⟨ta, pa, qa⟩ := h.go
  exact ⟨_, pa.pt, qa⟩
theorem dt_not {a : Expr} {fa : BX} {pos : Pos} (ha : DT X τ a fa) : DT X τ (.UnaryOp .Not a pos) (bNot fa) := by
  obtain ⟨ta, pa, qa⟩ := ha.go
  refine ⟨_, pt_not pa, fun σ H F env fp Q S q => ?_⟩
  obtain ⟨c, env', e, q⟩ := q
  simp only [bNot, Option.map_eq_some_iff] at e
  obtain ⟨⟨x, env1⟩, e1, e⟩ := e
  cases e
  exact qa σ H F env fp _ S ⟨x, env1, e1, fun H1 F1 fp1 S1 s1 => q H1 F1 fp1 S1 s1⟩
theorem de_ifExp {c a b : Expr} {fc : BX} {fa fb : EX} {ρ : Ow} {pos : Pos} (hc : DT X τ c fc) (ha : DE X τ a fa ρ) (hb : DE X τ b fb ρ) : DE X τ (.IfExp c a b pos) (eIf fc fa fb) ρ := by
  obtain ⟨tc, pc, qc⟩ := hc.go
  obtain ⟨ta, pa, qa⟩ := ha.go
  obtain ⟨tb, pb, qb⟩ := hb.go
  refine ⟨_, pe_ifExp pc pa pb, fun σ H F env fp Q S q => ?_⟩
  obtain ⟨d, env', e, q⟩ := q
  simp only [eIf, Option.bind_eq_some_iff] at e
  obtain ⟨⟨x, env1⟩, e1, e⟩ := e
  refine qc σ H F env fp _ S ⟨x, env1, e1, fun H1 F1 fp1 S1 s1 => ?_⟩
  cases x with
  | true =>
    rw [if_pos rfl]
    exact qa σ H1 F1 env1 fp1 _ S1 ⟨d, env', e, fun v H2 F2 fp2 fr2 S2 r2 f2 s2 => q v H2 F2 fp2 fr2 S2 r2 f2 (s1.trans s2)⟩
  | false =>
    rw [if_neg Bool.false_ne_true]
    exact qb σ H1 F1 env1 fp1 _ S1 ⟨d, env', e, fun v H2 F2 fp2 fr2 S2 r2 f2 s2 => q v H2 F2 fp2 fr2 S2 r2 f2 (s1.trans s2)⟩
/-- and, or, not of bools as values -/
noncomputable def vAnd (a b : EX) : EX := fun env => (a env).bind fun x => match x.1 with | .bl true => b x.2 | .bl false => some (.bl false, x.2) | _ => none
noncomputable def vOr (a b : EX) : EX := fun env => (a env).bind fun x => match x.1 with | .bl false => b x.2 | .bl true => some (.bl true, x.2) | _ => none
noncomputable def gNot : D → Option D
  | .bl b => some (.bl (!b))
  | _ => none
theorem de_one {op : BoolOp} {a : Expr} {fa : EX} {ρ : Ow} {pos : Pos} (ha : DE X τ a fa ρ) : DE X τ (.BoolOp op [a] pos) fa ρ := by
  obtain ⟨ta, pa, qa⟩ := ha.go
  exact ⟨_, pe_one pa, qa⟩
theorem de_and {a b : Expr} {rest : List Expr} {fa fb : EX} {pos : Pos} (ha : DE X τ a fa .fz) (hb : DE X τ (.BoolOp .And (b :: rest) pos) fb .fz) : DE X τ (.BoolOp .And (a :: b :: rest) pos) (vAnd fa fb) .fz := by
  obtain ⟨ta, pa, qa⟩ := ha.go
  obtain ⟨tb, pb, qb⟩ := hb.go
  refine ⟨_, pe_and pa pb, fun σ H F env fp Q S q => ?_⟩
  obtain ⟨d, env', e, q⟩ := q
  simp only [vAnd, Option.bind_eq_some_iff] at e
  obtain ⟨⟨x, env1⟩, e1, e⟩ := e
  refine qa σ H F env fp _ S ⟨x, env1, e1, fun vx H1 F1 fp1 fr1 S1 r1 f1 s1 => ?_⟩
  obtain ⟨z1, rfl⟩ := r1.fz_inv
  split at e
  · rename_i hx
    subst hx; cases z1
    refine ⟨true, rfl, ?_⟩
    rw [if_pos rfl]
    exact qb σ H1 F1 env1 fp1 _ S1 ⟨d, env', e, fun v H2 F2 fp2 fr2 S2 r2 f2 s2 => q v H2 F2 fp2 fr2 S2 r2 f2 (s1.nofr.trans s2)⟩
  · rename_i hx
    subst hx; cases z1; cases e
    refine ⟨false, rfl, ?_⟩
    rw [if_neg Bool.false_ne_true]
    exact q _ H1 F1 fp1 [] S1 (.fz (.bl _)) .nil s1
  · cases e
theorem de_or {a b : Expr} {rest : List Expr} {fa fb : EX} {pos : Pos} (ha : DE X τ a fa .fz) (hb : DE X τ (.BoolOp .Or (b :: rest) pos) fb .fz) : DE X τ (.BoolOp .Or (a :: b :: rest) pos) (vOr fa fb) .fz := by
  obtain ⟨ta, pa, qa⟩ := ha.go
  obtain ⟨tb, pb, qb⟩ := hb.go
  refine ⟨_, pe_or pa pb, fun σ H F env fp Q S q => ?_⟩
  obtain ⟨d, env', e, q⟩ := q
  simp only [vOr, Option.bind_eq_some_iff] at e
  obtain ⟨⟨x, env1⟩, e1, e⟩ := e
  refine qa σ H F env fp _ S ⟨x, env1, e1, fun vx H1 F1 fp1 fr1 S1 r1 f1 s1 => ?_⟩
  obtain ⟨z1, rfl⟩ := r1.fz_inv
  split at e
  · rename_i hx
    subst hx; cases z1
    refine ⟨false, rfl, ?_⟩
    rw [if_neg Bool.false_ne_true]
    exact qb σ H1 F1 env1 fp1 _ S1 ⟨d, env', e, fun v H2 F2 fp2 fr2 S2 r2 f2 s2 => q v H2 F2 fp2 fr2 S2 r2 f2 (s1.nofr.trans s2)⟩
  · rename_i hx
    subst hx; cases z1; cases e
    refine ⟨true, rfl, ?_⟩
    rw [if_pos rfl]
    exact q _ H1 F1 fp1 [] S1 (.fz (.bl _)) .nil s1
  · cases e
theorem de_not {a : Expr} {fa : EX} {pos : Pos} (ha : DE X τ a fa .fz) : DE X τ (.UnaryOp .Not a pos) (eU gNot fa) .fz := by
  obtain ⟨ta, pa, qa⟩ := ha.go
  refine ⟨_, pe_not pa, fun σ H F env fp Q S q => ?_⟩
  obtain ⟨d, env', e, q⟩ := q
  simp only [eU, Option.bind_eq_some_iff, Option.map_eq_some_iff] at e
  obtain ⟨⟨x, env1⟩, e1, d', e3, e4⟩ := e
  cases e4
  refine qa σ H F env fp _ S ⟨x, env1, e1, fun vx H1 F1 fp1 fr1 S1 r1 f1 s1 => ?_⟩
  obtain ⟨z1, rfl⟩ := r1.fz_inv
  cases x with
  | bl c =>
    cases e3
    cases z1
    exact ⟨c, rfl, q _ H1 F1 fp1 [] S1 (.fz (.bl _)) .nil s1⟩
  | _ => cases e3
end
end DL
namespace DL
open PySem PySem.Spec PyProof.Rows L2
section
variable {X : Cx} {τ : Tau}
/-! ### readable operands -/
structure DR (X : Cx) (τ : Tau) (e : Expr) (f : EX) : Prop where
  go : ∃ t, PE X e t ∧ ∀ (σ : L2.St) (H F : Hp) (env : En) (fp : Fp) (Q : VK), SO X.mg X.K τ env σ H F fp →
    (∃ d env', f env = some (d, env') ∧ ∀ v H' F' fp', SO X.mg X.K τ env' σ H' F' fp' → RdV X.mg X.K F' H' d v → Stp H F (UU fp) H' F' (UU fp') → Q v H') → t σ H Q
theorem dr_de {e : Expr} {f : EX} (h : DE X τ e f .fz) : DR X τ e f := by
  obtain ⟨t, p, q⟩ := h.go
  refine ⟨t, p, fun σ H F env fp Q S ⟨d, env', e, k⟩ => q σ H F env fp Q S ⟨d, env', e, fun v H' F' fp' fr S' r f s => ?_⟩⟩
  obtain ⟨z, rfl⟩ := r.fz_inv
  exact k v H' F' fp' S' (.inl z) s.nofr
/-- an ownership whose list may be read -/
inductive RdO : Ow → Prop
  | ls : RdO (.ls .fz)
  | br (a : Addr) : RdO (.br a)
  | at (a : Addr) {w : Ow} : RdO w → RdO (.at a w)
theorem Rp.rd {mg : Str → Option Value} {K : PySem.W.Frag} {F H : Hp} {w : Ow} (o : RdO w) : ∀ {d : D} {v : V} {f : List Addr}, Rp mg K F H w d v f → ∃ a vs ds, d = .lst ds ∧ v = .ref a ∧ SqL K H a vs ∧ FzL mg K F ds vs := by
  induction o with
  | ls =>
    intro d v f h
    obtain ⟨a, vs, ds, g, e1, e2, e3, e4, e5⟩ := h.ls_inv
    exact ⟨a, vs, ds, e1, e2, SqL.of e3, e4.fzl.1⟩
  | br a =>
    intro d v f h
    obtain ⟨vs, ds, e1, e2, e3, e4, e5⟩ := h.br_inv
    exact ⟨a, vs, ds, e1, e2, .inl e3, e4⟩
  | «at» a _ ih =>
    intro d v f h
    obtain ⟨e1, h⟩ := h.at_inv
    obtain ⟨b, vs, ds, q1, q2, q3⟩ := ih h
    exact ⟨b, vs, ds, q1, e1.trans q2, q3⟩
theorem dr_own (i : Nat) {x : Str} {pos : Pos} (ho : RdO (tg τ i)) (hN : X.N[i]? = some x := by rfl) (hv : Vis X.env.scope x := by first | exact Or.inl rfl | exact Or.inr (Or.inl rfl) | exact Or.inr (Or.inr rfl)) (hd : (x == ("__debug__" : Str)) = false := by decide)
    (hcd : (x == ("__classdict__" : Str)) = false := by decide) : DR X τ (.Name x pos) (eV i) := by
  refine ⟨_, pe_var hN hv hd hcd, fun σ H F env fp Q S q => ?_⟩
  obtain ⟨d', env', e1, q⟩ := q
  unfold eV at e1
  cases e2 : env[i]? with
  | none => rw [e2] at e1; cases e1
  | some z =>
    cases z with
    | none => rw [e2] at e1; cases e1
    | some z =>
      rw [e2] at e1
      cases e1
      obtain ⟨v, ev, r⟩ := S.rep i _ e2
      exact ⟨v, ev, q v H F fp S (.inr (r.rd ho)) Stp.refl⟩
/-! ### a built-in of one readable argument -/
noncomputable def CaR (X : Cx) (r : List V → Hp → VK → Prop) (g : D → Option D) (ρ : Ow) : Prop :=
  ∀ (H F : Hp) (x : D) (vx : V) (d : D) (Q : VK), Same F H → RdV X.mg X.K F H x vx → g x = some d → Ans X ρ H F d Q → r [vx] H Q
theorem de_callR {x : Str} {p pos : Pos} {id : String} {r : List V → Hp → VK → Prop} {g : D → Option D} {ρ : Ow} {e : Expr} {f : EX} (hc : CallR X (.builtin id) r) (hg : CaR X r g ρ) (hv : bootBuiltins x = some (.builtin id)) (hm : X.mg x = none) (ha : DR X τ e f) (hgl : Gl X x := by rfl) (hn : x ≠ "__name__" := by decide)
    (hdb : (x == ("__debug__" : Str)) = false := by decide) (he : starEach (e :: []) X.env = (false, eval e X.env) :: starEach [] X.env := by rfl) (hpl : (backTo pos (starEach [] X.env)).any (·.1) = false := by rfl) : DE X τ (.Call (.Name x p) [e] [] pos) (eU g f) ρ := by
  obtain ⟨ta, pa, qa⟩ := ha.go
  refine ⟨_, pe_callB hc hgl hm hv (pa_cons pa pa_nil he) hn hdb he hpl, fun σ H F env fp Q S q => ?_⟩
  obtain ⟨d, env', e, q⟩ := q
  simp only [eU, Option.bind_eq_some_iff, Option.map_eq_some_iff] at e
  obtain ⟨⟨y, env1⟩, e1, d', e2, e4⟩ := e
  cases e4
  refine qa σ H F env fp _ S ⟨y, env1, e1, fun v H1 F1 fp1 S1 r1 s1 => ?_⟩
  refine hg H1 F1 y v d Q S1.fh r1 e2 fun v H' F' fr n rv nd hf => ?_
  obtain ⟨A, B, C⟩ := fin_new S1 s1 n nd hf
  exact q v H' F' fp1 fr A rv B C
theorem de_callTR {x : Str} {p pos : Pos} {T : String} {r : List V → Hp → VK → Prop} {g : D → Option D} {ρ : Ow} {e : Expr} {f : EX} (hc : CallR X (.type T) r) (hg : CaR X r g ρ) (hv : bootBuiltins x = some (.type T)) (hm : X.mg x = none) (ha : DR X τ e f) (hgl : Gl X x := by rfl) (hn : x ≠ "__name__" := by decide)
    (hdb : (x == ("__debug__" : Str)) = false := by decide) (he : starEach (e :: []) X.env = (false, eval e X.env) :: starEach [] X.env := by rfl) (hpl : (backTo pos (starEach [] X.env)).any (·.1) = false := by rfl) : DE X τ (.Call (.Name x p) [e] [] pos) (eU g f) ρ := by
  obtain ⟨ta, pa, qa⟩ := ha.go
  refine ⟨_, pe_callTy hc hgl hm hv (pa_cons pa pa_nil he) hn hdb he hpl, fun σ H F env fp Q S q => ?_⟩
  obtain ⟨d, env', e, q⟩ := q
  simp only [eU, Option.bind_eq_some_iff, Option.map_eq_some_iff] at e
  obtain ⟨⟨y, env1⟩, e1, d', e2, e4⟩ := e
  cases e4
  refine qa σ H F env fp _ S ⟨y, env1, e1, fun v H1 F1 fp1 S1 r1 s1 => ?_⟩
  refine hg H1 F1 y v d Q S1.fh r1 e2 fun v H' F' fr n rv nd hf => ?_
  obtain ⟨A, B, C⟩ := fin_new S1 s1 n nd hf
  exact q v H' F' fp1 fr A rv B C
theorem rd_lst {F H : Hp} {ds : List D} {v : V} (s : Same F H) (r : RdV X.mg X.K F H (.lst ds) v) : ∃ a vs, v = .ref a ∧ SqL X.K H a vs ∧ FzL X.mg X.K F ds vs := by
  rcases r with r | ⟨a, vs, ds', e, rfl, h, hs⟩
  · cases r with
    | lst h hs => exact ⟨_, _, rfl, SqL.of (s _ _ h), hs⟩
  · cases e
    exact ⟨a, vs, rfl, h, hs⟩
theorem rd_tup {F H : Hp} {ds : List D} {v : V} (s : Same F H) (r : RdV X.mg X.K F H (.tup ds) v) : ∃ a vs, v = .ref a ∧ SqT X.K H a vs ∧ SqD X.K F a vs ∧ FzL X.mg X.K F ds vs := by
  rcases r with r | ⟨a, vs, ds', e, rfl, h, hs⟩
  · cases r with
    | tup h hs => exact ⟨_, _, rfl, (Same.seqD s h).toT, h, hs⟩
  · cases e
theorem rd_str {F H : Hp} {z : Str} {v : V} (r : RdV X.mg X.K F H (.str z) v) : v = .str z := by
  rcases r with r | ⟨a, vs, ds', e, rfl, h, hs⟩
  · cases r; rfl
  · cases e
/-- len -/
noncomputable def gLen : D → Option D
  | .lst xs => some (.int xs.length)
  | .tup xs => some (.int xs.length)
  | .str z => if big z.length = true then none else some (.int z.length)
  | _ => none
noncomputable def rLen (K : PySem.W.Frag) : List V → Hp → VK → Prop := fun xs H Q => ∃ x n, xs = [x] ∧ LenV K x H n ∧ Q (.int n) H
theorem cg_len : CaR X (rLen X.K) gLen .fz := by
  intro H F x vx d Q s hx e q
  unfold gLen at e
  split at e
  · obtain ⟨a, vs, rfl, h, hs⟩ := rd_lst s hx
    cases e
    refine ⟨_, vs.length, rfl, .inl ⟨_, h, rfl⟩, ?_⟩
    rw [← hs.length]; exact ans_here q s (.int _)
  · obtain ⟨a, vs, rfl, h, _, hs⟩ := rd_tup s hx
    cases e
    refine ⟨_, vs.length, rfl, .inr ⟨_, h, rfl⟩, ?_⟩
    rw [← hs.length]; exact ans_here q s (.int _)
  · obtain rfl := rd_str hx
    split at e
    · cases e
    · rename_i hb
      cases e
      exact ⟨_, _, rfl, ⟨nbig hb, rfl⟩, ans_here q s (.int _)⟩
  · cases e
/-- the intsD of a row -/
noncomputable def intsD : List D → Option (List Int)
  | [] => some []
  | .int i :: r => (intsD r).map fun ns => i :: ns
  | _ :: _ => none
theorem intsD_some : ∀ {ds : List D} {ns : List Int}, intsD ds = some ns → ds = ns.map .int
  | [], _, e => by cases e; rfl
  | .int i :: r, _, e => by
    simp only [intsD, Option.map_eq_some_iff] at e
    obtain ⟨ns, e, rfl⟩ := e
    rw [intsD_some e]; rfl
  | .non :: _, _, e => by cases e
  | .bl _ :: _, _, e => by cases e
  | .str _ :: _, _, e => by cases e
  | .tup _ :: _, _, e => by cases e
  | .lst _ :: _, _, e => by cases e
  | .dic _ :: _, _, e => by cases e
  | .dit _ :: _, _, e => by cases e
  | .ins _ _ :: _, _, e => by cases e
  | .raw _ :: _, _, e => by cases e
theorem intsD_map : ∀ ns : List Int, intsD (ns.map .int) = some ns
  | [] => rfl
  | n :: ns => by simp only [List.map_cons, intsD, intsD_map ns, Option.map_some]
noncomputable def bls : List D → Option (List Bool)
  | [] => some []
  | .bl i :: r => (bls r).map fun ns => i :: ns
  | _ :: _ => none
theorem bls_some : ∀ {ds : List D} {ns : List Bool}, bls ds = some ns → ds = ns.map .bl
  | [], _, e => by cases e; rfl
  | .bl i :: r, _, e => by
    simp only [bls, Option.map_eq_some_iff] at e
    obtain ⟨ns, e, rfl⟩ := e
    rw [bls_some e]; rfl
  | .non :: _, _, e => by cases e
  | .int _ :: _, _, e => by cases e
  | .str _ :: _, _, e => by cases e
  | .tup _ :: _, _, e => by cases e
  | .lst _ :: _, _, e => by cases e
  | .dic _ :: _, _, e => by cases e
  | .dit _ :: _, _, e => by cases e
  | .ins _ _ :: _, _, e => by cases e
  | .raw _ :: _, _, e => by cases e
theorem bls_map : ∀ ns : List Bool, bls (ns.map .bl) = some ns
  | [] => rfl
  | n :: ns => by simp only [List.map_cons, bls, bls_map ns, Option.map_some]
/-- sum of a list or tuple of intsD -/
noncomputable def gSum : D → Option D
  | .lst xs => (intsD xs).map fun ns => .int ns.sum
  | .tup xs => (intsD xs).map fun ns => .int ns.sum
  | _ => none
noncomputable def rSum2 (K : PySem.W.Frag) : List V → Hp → VK → Prop := fun vs H Q => rSum K vs H Q ∨ ∃ (a : Addr) (ns : List Int), vs = [V.ref a] ∧ SqT K H a (ns.map V.int) ∧ Q (.int ns.sum) H
theorem cr_sum2 (hc : X.calm = true) : CallR X (.builtin "sum") (rSum2 X.K) := by
  refine CallR.or (cr_sum hc) ?_
  intro pins s σ H vs us Q I r h
  obtain ⟨a, ns, rfl, hs, q⟩ := h
  obtain ⟨its, rv, hl, _⟩ := I.tuple hs
  rw [Vals.ref1 r]
  obtain ⟨xs, e⟩ := rv.ints.allInts.items
  have hn : numsOf (intItems xs).toList = ns := by rw [← e]; exact rv.ints.numsOf
  rw [nums_intItems] at hn
  have hl : s.heap.IsTuple a its.toArray := hl
  rw [e] at hl
  refine PySem.W.ktm_sumG (I.ok.hd hc) hl fun h' tk t' hk => ?_
  rw [preSum_eq, List.take_of_length_le (by simp), hn]
  exact ⟨.int _, H, I.kept hk, ⟨_, rfl⟩, q⟩
theorem cg_sum : CaR X (rSum2 X.K) gSum .fz := by
  intro H F x vx d Q s hx e q
  unfold gSum at e
  split at e
  · obtain ⟨a, vs, rfl, h, hs⟩ := rd_lst s hx
    simp only [Option.map_eq_some_iff] at e
    obtain ⟨ns, e, rfl⟩ := e
    rw [intsD_some e] at hs
    rw [hs.ints] at h
    exact .inl ⟨a, ns, rfl, h, ans_here q s (.int _)⟩
  · obtain ⟨a, vs, rfl, h, _, hs⟩ := rd_tup s hx
    simp only [Option.map_eq_some_iff] at e
    obtain ⟨ns, e, rfl⟩ := e
    rw [intsD_some e] at hs
    rw [hs.ints] at h
    exact .inr ⟨a, ns, rfl, h, ans_here q s (.int _)⟩
  · cases e
/-- the greatest, the least of a list of intsD -/
noncomputable def maxI : List Int → Int
  | [] => 0
  | [x] => x
  | x :: y :: r => max x (maxI (y :: r))
noncomputable def minI : List Int → Int
  | [] => 0
  | [x] => x
  | x :: y :: r => min x (minI (y :: r))
theorem maxI_mem : ∀ {l : List Int}, l ≠ [] → maxI l ∈ l
  | [x], _ => by simp [maxI]
  | x :: y :: r, _ => by
    have ih := maxI_mem (l := y :: r) (by simp)
    simp only [maxI]
    rcases Int.le_total x (maxI (y :: r)) with h | h
    · rw [Int.max_eq_right h]; exact List.mem_cons_of_mem _ ih
    · rw [Int.max_eq_left h]; exact List.mem_cons_self
theorem maxI_ge : ∀ {l : List Int} {y : Int}, y ∈ l → y ≤ maxI l
  | [x], y, h => by simp at h; subst h; simp [maxI]
  | x :: z :: r, y, h => by
    simp only [maxI]
    rcases List.mem_cons.mp h with rfl | h
    · exact Int.le_max_left _ _
    · exact Int.le_trans (maxI_ge h) (Int.le_max_right _ _)
theorem maxI_eq {l : List Int} {m : Int} (h : m ∈ l) (hm : ∀ y ∈ l, y ≤ m) : maxI l = m :=
  Int.le_antisymm (hm _ (maxI_mem (by rintro rfl; simp at h))) (maxI_ge h)
theorem minI_mem : ∀ {l : List Int}, l ≠ [] → minI l ∈ l
  | [x], _ => by simp [minI]
  | x :: y :: r, _ => by
    have ih := minI_mem (l := y :: r) (by simp)
    simp only [minI]
    rcases Int.le_total x (minI (y :: r)) with h | h
    · rw [Int.min_eq_left h]; exact List.mem_cons_self
    · rw [Int.min_eq_right h]; exact List.mem_cons_of_mem _ ih
theorem minI_le : ∀ {l : List Int} {y : Int}, y ∈ l → minI l ≤ y
  | [x], y, h => by simp at h; subst h; simp [minI]
  | x :: z :: r, y, h => by
    simp only [minI]
    rcases List.mem_cons.mp h with rfl | h
    · exact Int.min_le_left _ _
    · exact Int.le_trans (Int.min_le_right _ _) (minI_le h)
theorem minI_eq {l : List Int} {m : Int} (h : m ∈ l) (hm : ∀ y ∈ l, m ≤ y) : minI l = m :=
  Int.le_antisymm (minI_le h) (hm _ (minI_mem (by rintro rfl; simp at h)))
noncomputable def gMax : D → Option D
  | .lst xs => (intsD xs).bind fun ns => if ns.isEmpty = true then none else some (.int (maxI ns))
  | _ => none
noncomputable def gMin : D → Option D
  | .lst xs => (intsD xs).bind fun ns => if ns.isEmpty = true then none else some (.int (minI ns))
  | _ => none
theorem ne_of_isEmpty {α : Type} {l : List α} (h : ¬ l.isEmpty = true) : l ≠ [] := by rintro rfl; exact h rfl
theorem cg_max : CaR X (rMax X.K) gMax .fz := by
  intro H F x vx d Q s hx e q
  unfold gMax at e
  split at e
  · obtain ⟨a, vs, rfl, h, hs⟩ := rd_lst s hx
    simp only [Option.bind_eq_some_iff] at e
    obtain ⟨ns, e, e2⟩ := e
    split at e2
    · cases e2
    · rename_i hne
      cases e2
      rw [intsD_some e] at hs
      rw [hs.ints] at h
      refine ⟨a, ns, rfl, h, List.length_pos_iff.mpr (ne_of_isEmpty hne), fun m hm hle => ?_⟩
      rw [← maxI_eq hm hle]
      exact ans_here q s (.int _)
  · cases e
theorem cg_min : CaR X (rMin X.K) gMin .fz := by
  intro H F x vx d Q s hx e q
  unfold gMin at e
  split at e
  · obtain ⟨a, vs, rfl, h, hs⟩ := rd_lst s hx
    simp only [Option.bind_eq_some_iff] at e
    obtain ⟨ns, e, e2⟩ := e
    split at e2
    · cases e2
    · rename_i hne
      cases e2
      rw [intsD_some e] at hs
      rw [hs.ints] at h
      refine ⟨a, ns, rfl, h, List.length_pos_iff.mpr (ne_of_isEmpty hne), fun m hm hle => ?_⟩
      rw [← minI_eq hm hle]
      exact ans_here q s (.int _)
  · cases e
/-- max(a, b), min(a, b), abs -/
noncomputable def gMax2 : List D → Option D
  | [.int i, .int j] => some (.int (max i j))
  | _ => none
noncomputable def gMin2 : List D → Option D
  | [.int i, .int j] => some (.int (min i j))
  | _ => none
noncomputable def gAbs : List D → Option D
  | [.int i] => some (.int (Int.ofNat i.natAbs))
  | _ => none
theorem fz_ints2 {F : Hp} {i j : Int} {vs : List V} (h : FzL X.mg X.K F [.int i, .int j] vs) : vs = [.int i, .int j] := by
  cases h with
  | cons a h => cases a; cases h with
    | cons a h => cases a; cases h; rfl
theorem fz_one {F : Hp} {x : D} {vs : List V} (h : FzL X.mg X.K F [x] vs) : ∃ v, vs = [v] ∧ Fz X.mg X.K F x v := by
  cases h with
  | cons a h => cases h; exact ⟨_, rfl, a⟩
theorem cg_max2 : CaD X (fun xs H Q => ∃ i j, xs = [.int i, .int j] ∧ Q (.int (if j > i then j else i)) H) gMax2 .fz := by
  intro H F xs vs d Q s hx e q
  unfold gMax2 at e
  split at e
  · cases e
    rename_i i j
    obtain rfl := fz_ints2 hx
    refine ⟨i, j, rfl, ?_⟩
    rw [show (if j > i then j else i) = max i j by omega]
    exact ans_here q s (.int _)
  · cases e
theorem cg_min2 : CaD X (fun xs H Q => ∃ i j, xs = [.int i, .int j] ∧ Q (.int (if j < i then j else i)) H) gMin2 .fz := by
  intro H F xs vs d Q s hx e q
  unfold gMin2 at e
  split at e
  · cases e
    rename_i i j
    obtain rfl := fz_ints2 hx
    refine ⟨i, j, rfl, ?_⟩
    rw [show (if j < i then j else i) = min i j by omega]
    exact ans_here q s (.int _)
  · cases e
theorem cg_abs : CaD X (fun xs H Q => ∃ i, xs = [.int i] ∧ Q (.int (if i < 0 then -i else i)) H) gAbs .fz := by
  intro H F xs vs d Q s hx e q
  unfold gAbs at e
  split at e
  · cases e
    rename_i i
    obtain ⟨v, rfl, h⟩ := fz_one hx
    cases h
    refine ⟨i, rfl, ?_⟩
    rw [show (if i < 0 then -i else i) = Int.ofNat i.natAbs by simp only [Int.ofNat_eq_natCast]; omega]
    exact ans_here q s (.int _)
  · cases e
noncomputable def gInt : List D → Option D
  | [.int i] => some (.int i)
  | [.bl k] => some (.int (if k = true then 1 else 0))
  | _ => none
theorem cg_int : CaD X (fun xs H Q => (∃ i, xs = [.int i] ∧ Q (.int i) H) ∨ ∃ k, xs = [.bl k] ∧ Q (.int (if k then 1 else 0)) H) gInt .fz := by
  intro H F xs vs d Q s hx e q
  unfold gInt at e
  split at e
  · cases e
    obtain ⟨v, rfl, h⟩ := fz_one hx
    cases h
    exact .inl ⟨_, rfl, ans_here q s (.int _)⟩
  · cases e
    obtain ⟨v, rfl, h⟩ := fz_one hx
    cases h
    exact .inr ⟨_, rfl, ans_here q s (.int _)⟩
  · cases e
/-- tuple(x), list(x) -/
noncomputable def gTuple : D → Option D
  | .lst xs => some (.tup xs)
  | .tup xs => some (.tup xs)
  | _ => none
noncomputable def gList : D → Option D
  | .lst xs => some (.lst xs)
  | .tup xs => some (.lst xs)
  | _ => none
theorem cg_tuple : CaR X (rTupOfF X.K) gTuple .fz := by
  intro H F x vx d Q s hx e q
  unfold gTuple at e
  split at e
  · obtain ⟨a, vs, rfl, h, hs⟩ := rd_lst s hx
    cases e
    exact ⟨_, _, rfl, .inl ⟨h, fun l o hl ho => ans_tup q s hs hl ho⟩⟩
  · obtain ⟨a, vs, rfl, h, h2, hs⟩ := rd_tup s hx
    cases e
    exact ⟨_, _, rfl, .inr ⟨h, ans_here q s (.tup h2 hs)⟩⟩
  · cases e
theorem cg_list {ρ : Ow} (fo : FO ρ) : CaR X (fun xs H Q => ∃ p ys, xs = [.ref p] ∧ (SqL X.K H p ys ∨ SqT X.K H p ys) ∧ ∀ l, H l = none → Q (.ref l) (upd H l (.lst ys))) gList ρ := by
  intro H F x vx d Q s hx e q
  unfold gList at e
  split at e
  · obtain ⟨a, vs, rfl, h, hs⟩ := rd_lst s hx
    cases e
    exact ⟨_, _, rfl, .inl h, fun l hl => ans_fo fo q s hs hl⟩
  · obtain ⟨a, vs, rfl, h, h2, hs⟩ := rd_tup s hx
    cases e
    exact ⟨_, _, rfl, .inr h, fun l hl => ans_fo fo q s hs hl⟩
  · cases e
noncomputable def gAll : D → Option D
  | .lst xs => (bls xs).map fun bs => .bl (bs.all id)
  | _ => none
noncomputable def gAny : D → Option D
  | .lst xs => (bls xs).map fun bs => .bl (bs.any id)
  | _ => none
theorem cg_all : CaR X (rAll X.K) gAll .fz := by
  intro H F x vx d Q s hx e q
  unfold gAll at e
  split at e
  · obtain ⟨a, vs, rfl, h, hs⟩ := rd_lst s hx
    simp only [Option.map_eq_some_iff] at e
    obtain ⟨ns, e, rfl⟩ := e
    rw [bls_some e] at hs
    rw [hs.bls] at h
    exact ⟨a, ns, rfl, h, ans_here q s (.bl _)⟩
  · cases e
theorem cg_any : CaR X (rAny X.K) gAny .fz := by
  intro H F x vx d Q s hx e q
  unfold gAny at e
  split at e
  · obtain ⟨a, vs, rfl, h, hs⟩ := rd_lst s hx
    simp only [Option.map_eq_some_iff] at e
    obtain ⟨ns, e, rfl⟩ := e
    rw [bls_some e] at hs
    rw [hs.bls] at h
    exact ⟨a, ns, rfl, h, ans_here q s (.bl _)⟩
  · cases e
/-! ### truth of readable things -/
noncomputable def tru : D → Option Bool
  | .non => some false
  | .bl b => some b
  | .int i => some (i != 0)
  | .str z => if big z.length = true then none else some ((z.length : Int) != 0)
  | .lst xs => some (!xs.isEmpty)
  | .tup xs => some (!xs.isEmpty)
  | .dic xs => some (!xs.isEmpty)
  | _ => none
noncomputable def bTr (a : EX) : BX := fun env => (a env).bind fun x => (tru x.1).map fun c => (c, x.2)
theorem FzL.isEmpty {mg : Str → Option Value} {K : PySem.W.Frag} {F : Hp} {ds : List D} {vs : List V} (h : FzL mg K F ds vs) : ds.isEmpty = vs.isEmpty := by cases h <;> rfl
theorem FzP.isEmpty {mg : Str → Option Value} {K : PySem.W.Frag} {F : Hp} {ds : List (Key × D)} {vs : List (Key × V)} (h : FzP mg K F ds vs) : ds.isEmpty = vs.isEmpty := by cases h <;> rfl
theorem tru_rd {F H : Hp} {d : D} {v : V} {c : Bool} (s : Same F H) (r : RdV X.mg X.K F H d v) (e : tru d = some c) : TruV X.K v H c := by
  cases d with
  | lst xs =>
    cases e
    obtain ⟨a, vs, rfl, h, hs⟩ := rd_lst s r
    exact .inl ⟨vs, h, by rw [hs.isEmpty]⟩
  | tup xs =>
    cases e
    obtain ⟨a, vs, rfl, h, _, hs⟩ := rd_tup s r
    exact .inr (.inl ⟨vs, h, by rw [hs.isEmpty]⟩)
  | str z =>
    obtain rfl := rd_str r
    simp only [tru] at e
    split at e
    · cases e
    · rename_i hb
      cases e
      exact ⟨nbig hb, rfl⟩
  | non =>
    rcases r with r | ⟨_, _, _, e', _⟩
    · cases r; cases e; rfl
    · cases e'
  | bl b =>
    rcases r with r | ⟨_, _, _, e', _⟩
    · cases r; cases e; rfl
    · cases e'
  | int b =>
    rcases r with r | ⟨_, _, _, e', _⟩
    · cases r; cases e; rfl
    · cases e'
  | dic kvs =>
    rcases r with r | ⟨_, _, _, e', _⟩
    · cases r with
      | dic h hs =>
        cases e
        exact .inr (.inr ⟨_, s _ _ h, by rw [hs.isEmpty]⟩)
    · cases e'
  | _ => cases e
theorem dt_truth {e : Expr} {f : EX} (h : DR X τ e f) (he : ∀ whole, isTrue e X.env whole = (do let v ← whole; standAt e.pos; holding [v] (truthy v)) := by intro _; rfl) : DT X τ e (bTr f) := by
  obtain ⟨ta, pa, qa⟩ := h.go
  refine ⟨_, pt_truth pa he, fun σ H F env fp Q S q => ?_⟩
  obtain ⟨d, env', e, q⟩ := q
  simp only [bTr, Option.bind_eq_some_iff, Option.map_eq_some_iff] at e
  obtain ⟨⟨x, env1⟩, e1, c, e, e3⟩ := e
  cases e3
  refine qa σ H F env fp _ S ⟨x, env1, e1, fun vx H1 F1 fp1 S1 r1 s1 => ⟨_, tru_rd S1.fh r1 e, q H1 F1 fp1 S1 s1⟩⟩
end
end DL
namespace DL
open PySem PySem.Spec PyProof.Rows L2
/-! ### how a statement ends -/
inductive SR where
  | nx (e : En) | rt (d : D) (e : En) | bk (e : En) | ct (e : En)
abbrev SX := En → Option SR
structure Ex where
  nx : Tau
  bk : Tau
  ct : Tau
  rτ : Tau
  rt : Ow
noncomputable def PostS (mg : Str → Option Value) (K : PySem.W.Frag) (J : Ex) (H F : Hp) (U : Addr → Prop) (D : Ends) : SR → Prop
  | .nx e => ∀ σ' H' F' fp', SO mg K J.nx e σ' H' F' fp' → Stp H F U H' F' (UU fp') → D.nx σ' H'
  | .bk e => ∀ σ' H' F' fp', SO mg K J.bk e σ' H' F' fp' → Stp H F U H' F' (UU fp') → D.bk σ' H'
  | .ct e => ∀ σ' H' F' fp', SO mg K J.ct e σ' H' F' fp' → Stp H F U H' F' (UU fp') → D.ct σ' H'
  | .rt d e => ∀ v σ' H' F' fp' fr, SO mg K J.rτ e σ' H' F' fp' → Rp mg K F' H' J.rt d v fr → Frs F' fp' fr → Stp H F U H' F' (UF fp' fr) → D.rt v H'
theorem PostS.step {mg : Str → Option Value} {K : PySem.W.Frag} {J : Ex} {H F H1 F1 : Hp} {U U1 : Addr → Prop} {D : Ends} (s : Stp H F U H1 F1 U1) : ∀ {r : SR}, PostS mg K J H F U D r → PostS mg K J H1 F1 U1 D r
  | .nx _, q => fun σ' H' F' fp' S t => q σ' H' F' fp' S (s.trans t)
  | .bk _, q => fun σ' H' F' fp' S t => q σ' H' F' fp' S (s.trans t)
  | .ct _, q => fun σ' H' F' fp' S t => q σ' H' F' fp' S (s.trans t)
  | .rt _ _, q => fun v σ' H' F' fp' fr S r f t => q v σ' H' F' fp' fr S r f (s.trans t)
structure DS (X : Cx) (τ : Tau) (st : Stmt) (f : SX) (J : Ex) : Prop where
  go : ∃ t, PS X st t ∧ ∀ (D : Ends) (σ : L2.St) (H F : Hp) (env : En) (fp : Fp), SO X.mg X.K τ env σ H F fp → (∃ r, f env = some r ∧ PostS X.mg X.K J H F (UU fp) D r) → t D σ H
structure DSs (X : Cx) (τ : Tau) (st : List Stmt) (f : SX) (J : Ex) : Prop where
  go : ∃ t, PSs X st t ∧ ∀ (D : Ends) (σ : L2.St) (H F : Hp) (env : En) (fp : Fp), SO X.mg X.K τ env σ H F fp → (∃ r, f env = some r ∧ PostS X.mg X.K J H F (UU fp) D r) → t D σ H
noncomputable def sNil : SX := fun env => some (.nx env)
noncomputable def sSeq (f g : SX) : SX := fun env => (f env).bind fun r => match r with
  | .nx e => g e
  | .rt d e => some (.rt d e)
  | .bk e => some (.bk e)
  | .ct e => some (.ct e)
noncomputable def sSet (i : Nat) (f : EX) : SX := fun env => (f env).map fun x => .nx (x.2.set i (some x.1))
noncomputable def sDrop (f : EX) : SX := fun env => (f env).map fun x => .nx x.2
noncomputable def sRet (f : EX) : SX := fun env => (f env).map fun x => .rt x.1 x.2
noncomputable def sRetV (i : Nat) : SX := fun env => (env[i]?).join.map fun d => .rt d (env.set i none)
noncomputable def sIf (c : BX) (a b : SX) : SX := fun env => (c env).bind fun x => if x.1 = true then a x.2 else b x.2
section
variable {X : Cx} {τ τ1 : Tau} {J : Ex}
theorem dss_nil {b c r : Tau} {w : Ow} : DSs X τ [] sNil ⟨τ, b, c, r, w⟩ := ⟨_, pss_nil, fun D σ H F env fp S ⟨r, e, q⟩ => by
  cases e
  exact q σ H F fp S Stp.refl⟩
theorem dss_cons {st : Stmt} {rest : List Stmt} {f g : SX} {n b c r : Tau} {w : Ow} (h1 : DS X τ st f ⟨τ1, b, c, r, w⟩) (h2 : DSs X τ1 rest g ⟨n, b, c, r, w⟩) : DSs X τ (st :: rest) (sSeq f g) ⟨n, b, c, r, w⟩ := by
  obtain ⟨t1, p1, q1⟩ := h1.go
  obtain ⟨t2, p2, q2⟩ := h2.go
  refine ⟨_, pss_cons p1 p2, fun D σ H F env fp S ⟨r, e, q⟩ => ?_⟩
  simp only [sSeq, Option.bind_eq_some_iff] at e
  obtain ⟨x, e1, e2⟩ := e
  refine q1 { D with nx := t2 D } σ H F env fp S ⟨x, e1, ?_⟩
  cases x with
  | nx e => exact fun σ' H' F' fp' S' s => q2 D σ' H' F' e fp' S' ⟨r, e2, q.step s⟩
  | rt d e => cases e2; exact q
  | bk e => cases e2; exact q
  | ct e => cases e2; exact q
theorem dss_one {st : Stmt} {f : SX} (h : DS X τ st f J) : DSs X τ [st] f J := by
  obtain ⟨t1, p1, q1⟩ := h.go
  exact ⟨_, pss_one p1, q1⟩
theorem ds_pass {pos : Pos} {b c r : Tau} {w : Ow} : DS X τ (.Pass pos) sNil ⟨τ, b, c, r, w⟩ := ⟨_, ps_pass, fun D σ H F env fp S ⟨r, e, q⟩ => by
  cases e
  exact q σ H F fp S Stp.refl⟩
noncomputable def sBk : SX := fun env => some (.bk env)
noncomputable def sCt : SX := fun env => some (.ct env)
theorem ds_break {pos : Pos} {n c r : Tau} {w : Ow} : DS X τ (.Break pos) sBk ⟨n, τ, c, r, w⟩ := ⟨_, ps_break, fun D σ H F env fp S ⟨r, e, q⟩ => by
  cases e
  exact q σ H F fp S Stp.refl⟩
theorem ds_continue {pos : Pos} {n b r : Tau} {w : Ow} : DS X τ (.Continue pos) sCt ⟨n, b, τ, r, w⟩ := ⟨_, ps_continue, fun D σ H F env fp S ⟨r, e, q⟩ => by
  cases e
  exact q σ H F fp S Stp.refl⟩
/-- code that the proof never comes to -/
theorem ds_never {st : Stmt} : DS X τ st (fun _ => none) J := ⟨_, ps_never, fun D σ H F env fp S ⟨r, e, q⟩ => by cases e⟩
theorem dss_never {st : List Stmt} : DSs X τ st (fun _ => none) J := ⟨_, pss_never, fun D σ H F env fp S ⟨r, e, q⟩ => by cases e⟩
theorem de_never {e : Expr} {ρ : Ow} : DE X τ e (fun _ => none) ρ := ⟨fun _ _ _ => False, ⟨fun _ _ _ _ _ _ h => h.elim⟩, fun σ H F env fp Q S ⟨d, e', q, _⟩ => by cases q⟩
/-! ### slots -/
noncomputable def fpSet (fp : Fp) (i : Nat) (f : List Addr) : Fp := fun j => if j = i then f else fp j
theorem fpSet_same {fp : Fp} {i : Nat} {f : List Addr} : fpSet fp i f i = f := by unfold fpSet; rw [if_pos rfl]
theorem fpSet_ne {fp : Fp} {i j : Nat} {f : List Addr} (h : j ≠ i) : fpSet fp i f j = fp j := by unfold fpSet; rw [if_neg h]
theorem tg_set {τ : Tau} {i : Nat} {w : Ow} (h : i < τ.length) : tg (τ.set i w) i = w := by unfold tg; rw [List.getElem?_set_self h]; rfl
theorem tg_ne {τ : Tau} {i j : Nat} {w : Ow} (h : j ≠ i) : tg (τ.set i w) j = tg τ j := by unfold tg; rw [List.getElem?_set_ne (Ne.symm h)]
section
variable {mg : Str → Option Value} {K : PySem.W.Frag} {env : En} {σ : L2.St} {H F H' F' : Hp} {fp : Fp}
/-- slot i holds a new value -/
theorem SO.store {i : Nat} {d : D} {v : V} {fr : List Addr} {ρ : Ow} (S : SO mg K τ env σ H F fp) (r : Rp mg K F H ρ d v fr) (f : Frs F fp fr) (hb : ∀ a, ¬ ρ.Brs a) (hτ : i < τ.length) (hbr : ∀ j a, (tg τ j).Brs a → a ∉ fr) :
    SO mg K (τ.set i ρ) (env.set i (some d)) (σ.set i (some v)) H F (fpSet fp i fr) ∧ ∀ a, UU (fpSet fp i fr) a → UF fp fr a := by
  have hU : ∀ a, UU (fpSet fp i fr) a → UF fp fr a := fun a ⟨j, m⟩ => by
    by_cases hj : j = i
    · subst hj; rw [fpSet_same] at m; exact .inr m
    · rw [fpSet_ne hj] at m; exact .inl ⟨j, m⟩
  have hi : i < σ.length := by rw [← S.tl]; exact hτ
  have he : i < env.length := by rw [S.len]; exact hi
  refine ⟨⟨S.fh, by rw [List.length_set, List.length_set, S.len], by rw [List.length_set, List.length_set, S.tl], fun j d' e => ?_, fun j e => ?_, fun j => ?_, fun j k a m1 m2 => ?_, fun j a m => ?_, fun j a hba => ?_⟩, hU⟩
  · by_cases hj : j = i
    · subst hj
      rw [List.getElem?_set_self he] at e
      cases e
      exact ⟨v, by rw [List.getElem?_set_self hi], by rw [tg_set hτ, fpSet_same]; exact r⟩
    · rw [List.getElem?_set_ne (Ne.symm hj)] at e
      obtain ⟨u, e1, r1⟩ := S.rep j d' e
      exact ⟨u, by rw [List.getElem?_set_ne (Ne.symm hj)]; exact e1, by rw [tg_ne hj, fpSet_ne hj]; exact r1⟩
  · by_cases hj : j = i
    · subst hj
      rw [List.getElem?_set_self he] at e
      cases e
    · rw [List.getElem?_set_ne (Ne.symm hj)] at e
      rw [fpSet_ne hj]; exact S.non j e
  · by_cases hj : j = i
    · subst hj; rw [fpSet_same]; exact f.nd
    · rw [fpSet_ne hj]; exact S.nd j
  · by_cases hj : j = i
    · by_cases hk : k = i
      · rw [hj, hk]
      · subst hj
        rw [fpSet_same] at m1
        rw [fpSet_ne hk] at m2
        exact absurd ⟨k, m2⟩ (f.dj a m1)
    · by_cases hk : k = i
      · subst hk
        rw [fpSet_same] at m2
        rw [fpSet_ne hj] at m1
        exact absurd ⟨j, m1⟩ (f.dj a m2)
      · rw [fpSet_ne hj] at m1; rw [fpSet_ne hk] at m2
        exact S.dj j k a m1 m2
  · by_cases hj : j = i
    · subst hj; rw [fpSet_same] at m; exact f.nf a m
    · rw [fpSet_ne hj] at m; exact S.nf j a m
  · by_cases hj : j = i
    · subst hj
      rw [tg_set hτ] at hba
      exact absurd hba (hb a)
    · rw [tg_ne hj] at hba
      refine ⟨(S.br j a hba).1, fun hu => ?_⟩
      rcases hU a hu with z | z
      · exact (S.br j a hba).2 z
      · exact hbr j a hba z
/-- slot i is forgotten -/
theorem SO.forget {i : Nat} (S : SO mg K τ env σ H F fp) : SO mg K τ (env.set i none) σ H F (fpSet fp i []) := by
  have hU : ∀ a, UU (fpSet fp i []) a → UU fp a := fun a ⟨j, m⟩ => by
    by_cases hj : j = i
    · subst hj; rw [fpSet_same] at m; simp at m
    · rw [fpSet_ne hj] at m; exact ⟨j, m⟩
  refine ⟨S.fh, by rw [List.length_set, S.len], S.tl, fun j d' e => ?_, fun j e => ?_, fun j => ?_, fun j k a m1 m2 => ?_, fun j a m => ?_, fun j a hba => ⟨(S.br j a hba).1, fun hu => (S.br j a hba).2 (hU a hu)⟩⟩
  · by_cases hj : j = i
    · subst hj
      by_cases he : j < env.length
      · rw [List.getElem?_set_self he] at e; cases e
      · rw [List.getElem?_eq_none (by simpa using he)] at e; cases e
    · rw [List.getElem?_set_ne (Ne.symm hj)] at e
      obtain ⟨u, e1, r1⟩ := S.rep j d' e
      exact ⟨u, e1, by rw [fpSet_ne hj]; exact r1⟩
  · by_cases hj : j = i
    · subst hj; exact fpSet_same
    · rw [List.getElem?_set_ne (Ne.symm hj)] at e
      rw [fpSet_ne hj]; exact S.non j e
  · by_cases hj : j = i
    · subst hj; rw [fpSet_same]; exact List.nodup_nil
    · rw [fpSet_ne hj]; exact S.nd j
  · by_cases hj : j = i
    · subst hj; rw [fpSet_same] at m1; simp at m1
    · by_cases hk : k = i
      · subst hk; rw [fpSet_same] at m2; simp at m2
      · rw [fpSet_ne hj] at m1; rw [fpSet_ne hk] at m2
        exact S.dj j k a m1 m2
  · by_cases hj : j = i
    · subst hj; rw [fpSet_same] at m; simp at m
    · rw [fpSet_ne hj] at m; exact S.nf j a m
end
/-- an ownership without borrows -/
inductive NoBr : Ow → Prop
  | fz : NoBr .fz
  | ls {c : Ow} : NoBr c → NoBr (.ls c)
  | at {a : Addr} {w : Ow} : NoBr w → NoBr (.at a w)
theorem NoBr.no {w : Ow} (h : NoBr w) : ∀ a, ¬ w.Brs a := by
  induction h with
  | fz => exact fun a h => h
  | ls _ ih => exact ih
  | «at» _ ih => exact ih
/-- a new value's addresses are none of the borrowed ones -/
theorem brs_out {mg : Str → Option Value} {K : PySem.W.Frag} {env : En} {σ : L2.St} {H F H' F' : Hp} {fp fp' : Fp} {fr : List Addr} (S : SO mg K τ env σ H F fp) (s : Stp H F (UU fp) H' F' (UF fp' fr)) : ∀ j a, (tg τ j).Brs a → a ∉ fr := fun j a h m => by
  obtain ⟨h1, h2⟩ := S.br j a h
  rcases s.un a (.inr m) with z | z
  · exact h2 z
  · exact h1 z
/-- name = e -/
theorem ds_set (i : Nat) {x : Str} {e : Expr} {f : EX} {ρ : Ow} {pos pos' : Pos} {b c r : Tau} {w : Ow} (he : DE X τ e f ρ) (hN : X.N.Nodup) (hb : NoBr ρ := by repeat constructor) (hi : X.N[i]? = some x := by rfl) (hl : i < τ.length := by exact Nat.le_of_ble_eq_true rfl) (hx : Loc X.env.scope x := by first | exact .inl rfl | exact .inr rfl) (hs : swapsWith e (some (.Name x pos')) pos.line X.env = pure false := by rfl)
    (hf : X.fn x = true ∨ X.env.scope.names.lookup x = some .local := by first | exact .inl rfl | exact .inr rfl | assumption)   : DS X τ (.Assign [.Name x pos'] e pos) (sSet i f) ⟨τ.set i ρ, b, c, r, w⟩ := by
  obtain ⟨t, p, q⟩ := he.go
  refine ⟨_, ps_set hN hi hx p hs hf, fun D σ H F env fp S ⟨r, e, k⟩ => ?_⟩
  simp only [sSet, Option.map_eq_some_iff] at e
  obtain ⟨⟨d, env1⟩, e1, rfl⟩ := e
  refine q σ H F env fp _ S ⟨d, env1, e1, fun v H' F' fp' fr S' rv f' s => ?_⟩
  obtain ⟨S2, hU⟩ := S'.store rv f' hb.no hl (brs_out S s)
  exact k (σ.set i (some v)) H' F' _ S2 (s.sub hU)
end
end DL
namespace DL
open PySem PySem.Spec PyProof.Rows L2
section
variable {X : Cx} {τ τ1 : Tau} {J : Ex}
/-! ### small statements -/
theorem ds_drop {e : Expr} {f : EX} {ρ : Ow} {pos : Pos} {b c r : Tau} {w : Ow} (he : DE X τ e f ρ) (hs : swapsWith e none pos.line X.env = pure false := by rfl) : DS X τ (.Expr e pos) (sDrop f) ⟨τ, b, c, r, w⟩ := by
  obtain ⟨t, p, q⟩ := he.go
  refine ⟨_, ps_expr p hs, fun D σ H F env fp S ⟨r, e, k⟩ => ?_⟩
  simp only [sDrop, Option.map_eq_some_iff] at e
  obtain ⟨⟨d, env1⟩, e1, rfl⟩ := e
  exact q σ H F env fp _ S ⟨d, env1, e1, fun v H' F' fp' fr S' rv f' s => k σ H' F' fp' S' (s.sub fun a h => .inl h)⟩
theorem ds_ret {e : Expr} {f : EX} {ρ : Ow} {pos : Pos} {n b c : Tau} (he : DE X τ e f ρ) : DS X τ (.Return (some e) pos) (sRet f) ⟨n, b, c, τ, ρ⟩ := by
  obtain ⟨t, p, q⟩ := he.go
  refine ⟨_, ps_ret p, fun D σ H F env fp S ⟨r, e, k⟩ => ?_⟩
  simp only [sRet, Option.map_eq_some_iff] at e
  obtain ⟨⟨d, env1⟩, e1, rfl⟩ := e
  exact q σ H F env fp _ S ⟨d, env1, e1, fun v H' F' fp' fr S' rv f' s => k v σ H' F' fp' fr S' rv f' s⟩
noncomputable def sRetN : SX := fun env => some (.rt .non env)
theorem ds_retN {pos : Pos} {n b c : Tau} : DS X τ (.Return none pos) sRetN ⟨n, b, c, τ, .fz⟩ := ⟨_, ps_retN, fun D σ H F env fp S ⟨r, e, k⟩ => by
  cases e
  exact k .non σ H F fp [] S (.fz .non) .nil Stp.refl.tofr⟩
/-- return x, x one's own: it is handed over -/
theorem ds_retV (i : Nat) {x : Str} {pos pos' : Pos} {n b c : Tau} (hN : X.N[i]? = some x := by rfl) (hv : Vis X.env.scope x := by first | exact Or.inl rfl | exact Or.inr (Or.inl rfl) | exact Or.inr (Or.inr rfl)) (hd : (x == ("__debug__" : Str)) = false := by decide)
    (hcd : (x == ("__classdict__" : Str)) = false := by decide) : DS X τ (.Return (some (.Name x pos')) pos) (sRetV i) ⟨n, b, c, τ, tg τ i⟩ := by
  refine ⟨_, ps_ret (pe_var hN hv hd hcd), fun D σ H F env fp S ⟨r, e, k⟩ => ?_⟩
  simp only [sRetV, Option.map_eq_some_iff] at e
  obtain ⟨d, e1, rfl⟩ := e
  have e1 : env[i]? = some (some d) := by
    cases q : env[i]? with
    | none => rw [q] at e1; cases e1
    | some z => rw [q] at e1; exact congrArg some e1
  obtain ⟨v, ev, rv⟩ := S.rep i d e1
  refine ⟨v, ev, k v σ H F (fpSet fp i []) (fp i) S.forget rv ⟨S.nd i, fun a m => S.nf i a m, fun a m ⟨j, z⟩ => ?_⟩ (Stp.refl.sub fun a h => ?_)⟩
  · by_cases hj : j = i
    · subst hj; rw [fpSet_same] at z; simp at z
    · rw [fpSet_ne hj] at z; exact hj (S.dj j i a z m)
  · rcases h with ⟨j, z⟩ | z
    · by_cases hj : j = i
      · subst hj; rw [fpSet_same] at z; simp at z
      · rw [fpSet_ne hj] at z; exact ⟨j, z⟩
    · exact ⟨i, z⟩
theorem ds_if {c : Expr} {fc : BX} {a b : List Stmt} {fa fb : SX} {pos : Pos} (hc : DT X τ c fc) (ha : DSs X τ a fa J) (hb : DSs X τ b fb J) : DS X τ (.If c a b pos) (sIf fc fa fb) J := by
  obtain ⟨tc, pc, qc⟩ := hc.go
  obtain ⟨ta, pa, qa⟩ := ha.go
  obtain ⟨tb, pb, qb⟩ := hb.go
  refine ⟨_, ps_if pc pa pb, fun D σ H F env fp S ⟨r, e, q⟩ => ?_⟩
  simp only [sIf, Option.bind_eq_some_iff] at e
  obtain ⟨⟨x, env1⟩, e1, e⟩ := e
  refine qc σ H F env fp _ S ⟨x, env1, e1, fun H1 F1 fp1 S1 s1 => ?_⟩
  cases x with
  | true =>
    rw [if_pos rfl]
    exact qa D σ H1 F1 env1 fp1 S1 ⟨r, e, q.step s1⟩
  | false =>
    rw [if_neg Bool.false_ne_true]
    exact qb D σ H1 F1 env1 fp1 S1 ⟨r, e, q.step s1⟩
/-! ### freezing a slot -/
section
variable {mg : Str → Option Value} {K : PySem.W.Frag} {F F' H : Hp}
mutual
theorem Rp.freeze (s : Same F F') : ∀ {w : Ow} {d : D} {v : V} {f : List Addr}, NoBr w → Rp mg K F H w d v f → (∀ a ∈ f, F' a = H a) → Fz mg K F' d v
  | _, _, _, _, _, .fz h, _ => h.mono s
  | _, _, _, _, n, .ls h hs, k => .lst ((k _ List.mem_cons_self).trans h) (RpL.freeze s (by cases n; assumption) hs fun a m => k a (List.mem_cons_of_mem _ m))
  | _, _, _, _, n, .br h hs, k => by cases n
  | _, _, _, _, n, .at h, k => Rp.freeze s (by cases n; assumption) h k
theorem RpL.freeze (s : Same F F') : ∀ {w : Ow} {d : List D} {v : List V} {f : List Addr}, NoBr w → RpL mg K F H w d v f → (∀ a ∈ f, F' a = H a) → FzL mg K F' d v
  | _, _, _, _, _, .nil, _ => .nil
  | _, _, _, _, n, .cons h hs, k => .cons (Rp.freeze s n h fun a m => k a (List.mem_append_left _ m)) (RpL.freeze s n hs fun a m => k a (List.mem_append_right _ m))
end
end
open Classical in
theorem SO.freeze {mg : Str → Option Value} {K : PySem.W.Frag} {env : En} {σ : L2.St} {H F : Hp} {fp : Fp} {i : Nat} (S : SO mg K τ env σ H F fp) (n : NoBr (tg τ i)) : ∃ F' fp', SO mg K (τ.set i .fz) env σ H F' fp' ∧ Stp H F (UU fp) H F' (UU fp') := by
  let F' : Hp := fun a => if a ∈ fp i then H a else F a
  have hF1 : ∀ a, a ∈ fp i → F' a = H a := fun a m => if_pos m
  have hF2 : ∀ a, a ∉ fp i → F' a = F a := fun a m => if_neg m
  have s : Same F F' := fun a o e => by
    by_cases m : a ∈ fp i
    · rw [S.nf i a m] at e; cases e
    · rw [hF2 a m]; exact e
  have hU : ∀ a, UU (fpSet fp i []) a → UU fp a := fun a ⟨j, m⟩ => by
    by_cases hj : j = i
    · subst hj; rw [fpSet_same] at m; simp at m
    · rw [fpSet_ne hj] at m; exact ⟨j, m⟩
  refine ⟨F', fpSet fp i [], ⟨fun a o e => ?_, S.len, by rw [List.length_set]; exact S.tl, fun j d e => ?_, fun j e => ?_, fun j => ?_, fun j k a m1 m2 => ?_, fun j a m => ?_, fun j a hba => ?_⟩, ⟨fun a o e _ => e, s, fun a o e => ?_, fun a h => .inl (hU a h)⟩⟩
  · by_cases m : a ∈ fp i
    · rw [hF1 a m] at e; exact e
    · rw [hF2 a m] at e; exact S.fh a o e
  · obtain ⟨v, ev, r⟩ := S.rep j d e
    refine ⟨v, ev, ?_⟩
    by_cases hj : j = i
    · subst hj
      rw [fpSet_same]
      by_cases hl : j < τ.length
      · rw [tg_set hl]
        exact .fz (r.freeze s n hF1)
      · have : tg (τ.set j .fz) j = .fz := by unfold tg; rw [List.getElem?_eq_none (by simpa using hl)]; rfl
        rw [this]
        exact .fz (r.freeze s n hF1)
    · rw [tg_ne hj, fpSet_ne hj]
      exact r.move s (fun a _ o e => e) fun a _ o e => e
  · by_cases hj : j = i
    · subst hj; exact fpSet_same
    · rw [fpSet_ne hj]; exact S.non j e
  · by_cases hj : j = i
    · subst hj; rw [fpSet_same]; exact List.nodup_nil
    · rw [fpSet_ne hj]; exact S.nd j
  · by_cases hj : j = i
    · subst hj; rw [fpSet_same] at m1; simp at m1
    · by_cases hk : k = i
      · subst hk; rw [fpSet_same] at m2; simp at m2
      · rw [fpSet_ne hj] at m1; rw [fpSet_ne hk] at m2
        exact S.dj j k a m1 m2
  · by_cases hj : j = i
    · subst hj; rw [fpSet_same] at m; simp at m
    · rw [fpSet_ne hj] at m
      rw [hF2 a fun z => hj (S.dj j i a m z)]
      exact S.nf j a m
  · by_cases hj : j = i
    · subst hj
      by_cases hl : j < τ.length
      · rw [tg_set hl] at hba; exact False.elim hba
      · have : tg (τ.set j .fz) j = .fz := by unfold tg; rw [List.getElem?_eq_none (by simpa using hl)]; rfl
        rw [this] at hba; exact False.elim hba
    · rw [tg_ne hj] at hba
      exact ⟨(S.br j a hba).1, fun z => (S.br j a hba).2 (hU a z)⟩
  · by_cases m : a ∈ fp i
    · exact .inr (.inr ⟨i, m⟩)
    · rw [hF2 a m] at e; exact .inl e
/-- from here on slot i is frozen -/
theorem dss_freeze (i : Nat) {st : List Stmt} {f : SX} (h : DSs X (τ.set i .fz) st f J) (n : NoBr (tg τ i) := by repeat constructor) : DSs X τ st f J := by
  obtain ⟨t, p, q⟩ := h.go
  refine ⟨t, p, fun D σ H F env fp S ⟨r, e, k⟩ => ?_⟩
  obtain ⟨F', fp', S', s⟩ := S.freeze (i := i) n
  exact q D σ H F' env fp' S' ⟨r, e, k.step s⟩
theorem ds_freeze (i : Nat) {st : Stmt} {f : SX} (h : DS X (τ.set i .fz) st f J) (n : NoBr (tg τ i) := by repeat constructor) : DS X τ st f J := by
  obtain ⟨t, p, q⟩ := h.go
  refine ⟨t, p, fun D σ H F env fp S ⟨r, e, k⟩ => ?_⟩
  obtain ⟨F', fp', S', s⟩ := S.freeze (i := i) n
  exact q D σ H F' env fp' S' ⟨r, e, k.step s⟩
/-- behind a statement slot i is frozen -/
theorem dss_after (i : Nat) {st : List Stmt} {f : SX} {n b c r : Tau} {w : Ow} (h : DSs X τ st f ⟨n, b, c, r, w⟩) (hn : NoBr (tg n i) := by repeat constructor) : DSs X τ st f ⟨n.set i .fz, b, c, r, w⟩ := by
  obtain ⟨t, p, q⟩ := h.go
  refine ⟨t, p, fun D σ H F env fp S ⟨r, e, k⟩ => q D σ H F env fp S ⟨r, e, ?_⟩⟩
  cases r with
  | nx e =>
    intro σ' H' F' fp' S' s
    obtain ⟨F2, fp2, S2, s2⟩ := S'.freeze (i := i) hn
    exact k σ' H' F2 fp2 S2 (s.trans s2)
  | rt d e => exact k
  | bk e => exact k
  | ct e => exact k
/-! ### one's own list is changed -/
inductive OwL : Ow → Prop
  | ls : OwL (.ls .fz)
  | at {a : Addr} {w : Ow} : OwL w → OwL (.at a w)
theorem OwL.noBr {w : Ow} (h : OwL w) : ∀ a, ¬ w.Brs a := by
  induction h with
  | ls => exact fun a h => h
  | «at» _ ih => exact ih
section
variable {mg : Str → Option Value} {K : PySem.W.Frag} {env : En} {σ : L2.St} {H F H' F' : Hp} {fp : Fp}
theorem Rp.own {w : Ow} (o : OwL w) : ∀ {d : D} {v : V} {f : List Addr}, Rp mg K F H w d v f → ∃ a vs ds, d = .lst ds ∧ v = .ref a ∧ H a = some (.lst vs) ∧ FzL mg K F ds vs ∧ f = [a] ∧
    ∀ (F' H' : Hp) ds' vs', H' a = some (.lst vs') → FzL mg K F' ds' vs' → Rp mg K F' H' w (.lst ds') (.ref a) [a] := by
  induction o with
  | ls =>
    intro d v f h
    obtain ⟨a, vs, ds, g, rfl, rfl, e3, e4, rfl⟩ := h.ls_inv
    obtain ⟨e5, rfl⟩ := e4.fzl
    exact ⟨a, vs, ds, rfl, rfl, e3, e5, rfl, fun F' H' ds' vs' h1 h2 => .ls h1 (RpL.of_fzl h2)⟩
  | «at» _ ih =>
    intro d v f h
    obtain ⟨rfl, h'⟩ := h.at_inv
    obtain ⟨a2, vs, ds, rfl, e2, e3, e4, rfl, k⟩ := ih h'
    cases e2
    exact ⟨_, vs, ds, rfl, rfl, e3, e4, rfl, fun F' H' ds' vs' h1 h2 => .at (k F' H' ds' vs' h1 h2)⟩
theorem en_get {i : Nat} {d : D} (e : (env[i]?).join = some d) : env[i]? = some (some d) := by
  cases q : env[i]? with
  | none => rw [q] at e; cases e
  | some z => rw [q] at e; exact congrArg some e
theorem SO.own {i : Nat} {d : D} (S : SO mg K τ env σ H F fp) (o : OwL (tg τ i)) (e : env[i]? = some (some d)) : ∃ a vs ds, d = .lst ds ∧ σ[i]? = some (some (.ref a)) ∧ H a = some (.lst vs) ∧ FzL mg K F ds vs ∧
    ∀ ds' vs', FzL mg K F ds' vs' → SO mg K τ (env.set i (some (.lst ds'))) σ (upd H a (.lst vs')) F fp ∧ Stp H F (UU fp) (upd H a (.lst vs')) F (UU fp) := by
  obtain ⟨v, ev, r⟩ := S.rep i d e
  obtain ⟨a, vs, ds, rfl, rfl, ha, hs, hf, k⟩ := r.own o
  have ma : a ∈ fp i := by rw [hf]; exact List.mem_singleton_self a
  have he : i < env.length := by
    by_cases h : i < env.length
    · exact h
    · rw [List.getElem?_eq_none (by omega)] at e; cases e
  refine ⟨a, vs, ds, rfl, ev, ha, hs, fun ds' vs' h2 => ⟨⟨fun b x q => ?_, by rw [List.length_set, S.len], S.tl, fun j d q => ?_, fun j q => ?_, S.nd, S.dj, S.nf, fun j b hb => ⟨?_, (S.br j b hb).2⟩⟩, ⟨fun b x q hu => ?_, Same.refl _, fun b x q => .inl q, fun b h => .inl h⟩⟩⟩
  · have : b ≠ a := fun z => by rw [z, S.nf i a ma] at q; cases q
    rw [upd_ne this]; exact S.fh b x q
  · by_cases hj : j = i
    · subst hj
      rw [List.getElem?_set_self he] at q
      cases q
      refine ⟨_, ev, ?_⟩
      rw [hf]
      exact k F _ ds' vs' upd_same h2
    · rw [List.getElem?_set_ne (Ne.symm hj)] at q
      obtain ⟨u, e1, r1⟩ := S.rep j d q
      refine ⟨u, e1, r1.move (Same.refl _) (fun b m x q => ?_) fun b hb x q => ?_⟩
      · have : b ≠ a := fun z => hj (S.dj j i a (z ▸ m) ma)
        rw [upd_ne this]; exact q
      · have : b ≠ a := fun z => (S.br j b hb).2 (z ▸ ⟨i, ma⟩)
        rw [upd_ne this]; exact q
  · by_cases hj : j = i
    · subst hj
      rw [List.getElem?_set_self he] at q
      cases q
    · rw [List.getElem?_set_ne (Ne.symm hj)] at q
      exact S.non j q
  · by_cases hb2 : b = a
    · rw [hb2, upd_same]; simp
    · rw [upd_ne hb2]; exact (S.br j b hb).1
  · have : b ≠ a := fun z => hu (z ▸ ⟨i, ma⟩)
    rw [upd_ne this]; exact q
end
/-- what a method does to a list's content -/
noncomputable def MuD (X : Cx) (r : V → List V → Hp → VK → Prop) (g : List D → List D → Option (List D × D)) : Prop :=
  ∀ (H F : Hp) (a : Addr) (vs : List V) (ds as : List D) (us : List V) (ds' : List D) (d : D) (Q : VK), Same F H → H a = some (.lst vs) → FzL X.mg X.K F ds vs → FzL X.mg X.K F as us → g ds as = some (ds', d) →
    (∀ v vs', FzL X.mg X.K F ds' vs' → Fz X.mg X.K F d v → Q v (upd H a (.lst vs'))) → r (.ref a) us H Q
noncomputable def eMut (i : Nat) (g : List D → List D → Option (List D × D)) (f : AX) : EX := fun env => match (env[i]?).join with
  | some (.lst _) => (f env).bind fun x => match (x.2[i]?).join with
    | some (.lst ds) => (g ds x.1).map fun y => (y.2, x.2.set i (some (.lst y.1)))
    | _ => none
  | _ => none
theorem eMut_inv {i : Nat} {g : List D → List D → Option (List D × D)} {f : AX} {env env' : En} {d : D} (e : eMut i g f env = some (d, env')) : ∃ dl as env1 ds ds', env[i]? = some (some (.lst dl)) ∧ f env = some (as, env1) ∧ env1[i]? = some (some (.lst ds)) ∧ g ds as = some (ds', d) ∧ env' = env1.set i (some (.lst ds')) := by
  unfold eMut at e
  split at e
  · rename_i dl h0
    simp only [Option.bind_eq_some_iff] at e
    obtain ⟨⟨as, env1⟩, e1, e⟩ := e
    split at e
    · rename_i ds h1
      simp only [Option.map_eq_some_iff] at e
      obtain ⟨⟨ds', d'⟩, e2, e3⟩ := e
      cases e3
      exact ⟨dl, as, env1, ds, ds', en_get h0, e1, en_get h1, e2, rfl⟩
    · cases e
  · cases e
theorem de_mut (i : Nat) {x m : Str} {id : String} {r : V → List V → Hp → VK → Prop} {g : List D → List D → Option (List D × D)} {e : Expr} {es : List Expr} {f : AX} {p apos pos : Pos} (slot : Slot "list" m id) (hty : typeOf (.builtin id) = pure (.type "method_descriptor")) (hm : MtR X id r) (hg : MuD X r g) (ha : DA X τ (e :: es) f)
    (o : OwL (tg τ i) := by repeat constructor) (hN : X.N[i]? = some x := by rfl) (hv : Vis X.env.scope x := by first | exact Or.inl rfl | exact Or.inr (Or.inl rfl) | exact Or.inr (Or.inr rfl)) (hd : (x == ("__debug__" : Str)) = false := by decide)
    (hcd : (x == ("__classdict__" : Str)) = false := by decide)
    (hbase : attributeBase (.Name x p) m X.env (eval (.Name x p) X.env) = eval (.Name x p) X.env := by rfl)
    (hfew : ((backTo pos (starEach (e :: es) X.env)).all (fun x => !x.1) && (backToKw pos (keywordEach [] X.env)).all (fun x => x.1.isSome)
      && decide ((e :: es).length + ([] : List Keyword).length + (if ([] : List Keyword).isEmpty then 0 else 1) < 30)) = true := by rfl)
    (hline : (apos.endLine == pos.line) = true := by rfl) (hs : starEach (e :: es) X.env = (false, eval e X.env) :: starEach es X.env := by rfl) (hplain : (backTo pos (starEach es X.env)).any (·.1) = false := by rfl) :
    DE X τ (.Call (.Attribute (.Name x p) m apos) (e :: es) [] pos) (eMut i g f) .fz := by
  obtain ⟨ta, pa, qa⟩ := ha.go
  refine ⟨_, pe_bm PySem.F.plainAttrs_list slot hty hm (pe_var hN hv hd hcd) pa hbase hfew hline hs hplain, fun σ H F env fp Q S ⟨d, env', e, q⟩ => ?_⟩
  obtain ⟨dl, as, env1, ds, ds', h0, e1, h1, e2, rfl⟩ := eMut_inv e
  obtain ⟨a0, vs0, ds0, _, ev0, ha0, _, _⟩ := S.own o h0
  refine ⟨.ref a0, ev0, .inl ⟨rfl, _, SqL.of ha0⟩, ?_⟩
  refine qa σ H F env fp _ S ⟨as, env1, e1, fun us H1 F1 fp1 S1 r1 s1 => ?_⟩
  obtain ⟨a, vs, ds2, q1, q2, q3, q4, q5⟩ := S1.own o h1
  cases q1
  rw [ev0] at q2; cases q2
  refine hg H1 F1 a0 vs ds as us ds' d Q S1.fh q3 q4 r1 e2 fun v vs' k1 k2 => ?_
  obtain ⟨S2, s2⟩ := q5 ds' vs' k1
  exact q v _ F1 fp1 [] S2 (.fz k2) .nil (s1.trans s2).tofr
theorem de_mut0 (i : Nat) {x m : Str} {id : String} {r : V → List V → Hp → VK → Prop} {g : List D → List D → Option (List D × D)} {p apos pos : Pos} (slot : Slot "list" m id) (hty : typeOf (.builtin id) = pure (.type "method_descriptor")) (hm : MtR X id r) (hg : MuD X r g)
    (o : OwL (tg τ i) := by repeat constructor) (hN : X.N[i]? = some x := by rfl) (hv : Vis X.env.scope x := by first | exact Or.inl rfl | exact Or.inr (Or.inl rfl) | exact Or.inr (Or.inr rfl)) (hd : (x == ("__debug__" : Str)) = false := by decide)
    (hcd : (x == ("__classdict__" : Str)) = false := by decide)
    (hbase : attributeBase (.Name x p) m X.env (eval (.Name x p) X.env) = eval (.Name x p) X.env := by rfl) (hline : (apos.endLine == pos.line) = true := by rfl) :
    DE X τ (.Call (.Attribute (.Name x p) m apos) [] [] pos) (eMut i g aN) .fz := by
  refine ⟨_, pe_bm0 PySem.F.plainAttrs_list slot hty hm (pe_var hN hv hd hcd) hbase hline, fun σ H F env fp Q S ⟨d, env', e, q⟩ => ?_⟩
  obtain ⟨dl, as, env1, ds, ds', h0, e1, h1, e2, rfl⟩ := eMut_inv e
  cases e1
  obtain ⟨a0, vs0, ds0, z0, ev0, ha0, hs0, k0⟩ := S.own o h0
  refine ⟨.ref a0, ev0, .inl ⟨rfl, _, SqL.of ha0⟩, ?_⟩
  cases z0
  rw [h0] at h1
  cases h1
  refine hg H F a0 vs0 dl [] [] ds' d Q S.fh ha0 hs0 .nil e2 fun v vs' k1 k2 => ?_
  obtain ⟨S2, s2⟩ := k0 ds' vs' k1
  exact q v _ F fp [] S2 (.fz k2) .nil s2.tofr
/-! the methods -/
noncomputable def gAppend (ds as : List D) : Option (List D × D) := match as with
  | [d] => if big (ds.length + 1) = true then none else some (ds ++ [d], .non)
  | _ => none
theorem lt_big {n : Nat} (h : ¬ big (n + 1) = true) : n < sizeLine := nbig h
theorem mu_append : MuD X rAppend gAppend := by
  intro H F a vs ds as us ds' d Q s ha hs hus e q
  unfold gAppend at e
  split at e
  · split at e
    · cases e
    · rename_i hb
      cases e
      obtain ⟨v, rfl, hv⟩ := fz_one hus
      exact ⟨a, vs, v, rfl, rfl, ha, by rw [← hs.length]; exact lt_big hb, q _ _ (hs.append (.cons hv .nil)) .non⟩
  · cases e
noncomputable def gExtend (ds as : List D) : Option (List D × D) := match as with
  | [.lst es] => if big (ds.length + es.length) = true then none else some (ds ++ es, .non)
  | _ => none
theorem mu_extend : MuD X rExtend gExtend := by
  intro H F a vs ds as us ds' d Q s ha hs hus e q
  unfold gExtend at e
  split at e
  · split at e
    · cases e
    · rename_i hb
      cases e
      obtain ⟨v, rfl, hv⟩ := fz_one hus
      cases hv with
      | lst hv hvs =>
      exact ⟨a, _, vs, _, rfl, rfl, ha, s _ _ hv, by rw [← hs.length, ← hvs.length]; exact nbig hb, q _ _ (hs.append hvs) .non⟩
  · cases e
noncomputable def gPop (ds as : List D) : Option (List D × D) := match as with
  | [] => (ds.getLast?).map fun d => (ds.dropLast, d)
  | _ => none
theorem mu_pop : MuD X rPop gPop := by
  intro H F a vs ds as us ds' d Q s ha hs hus e q
  unfold gPop at e
  split at e
  · simp only [Option.map_eq_some_iff] at e
    obtain ⟨x, e1, e2⟩ := e
    cases e2
    cases hus
    rw [List.getLast?_eq_getElem?] at e1
    obtain ⟨v, ev, rv⟩ := hs.get e1
    exact ⟨a, vs, v, rfl, rfl, ha, by rw [← hs.length]; exact ev, q _ _ hs.dropLast rv⟩
  · cases e
noncomputable def gPopAt (ds as : List D) : Option (List D × D) := match as with
  | [.int i] => if 0 ≤ i ∧ i < 1048576 then (ds[i.toNat]?).map fun d => (ds.eraseIdx i.toNat, d) else none
  | _ => none
theorem seqIndex_nat {n k : Nat} (h : k < n) : seqIndex? ((k : Nat) : Int) n = some k := by
  have e : ixN n ((k : Nat) : Int) = some k := by
    unfold ixN
    rw [if_pos (by omega), if_pos (by omega)]
    simp
  exact (ixN_seq e).1
theorem mu_popAt : MuD X rPopAt gPopAt := by
  intro H F a vs ds as us ds' d Q s ha hs hus e q
  unfold gPopAt at e
  split at e
  · split at e
    · rename_i hi
      simp only [Option.map_eq_some_iff] at e
      obtain ⟨x, e1, e2⟩ := e
      cases e2
      obtain ⟨v, rfl, hv⟩ := fz_one hus
      cases hv
      rename_i i
      obtain ⟨v, ev, rv⟩ := hs.get e1
      have hlt : i.toNat < vs.length := by
        by_cases h : i.toNat < vs.length
        · exact h
        · rw [List.getElem?_eq_none (by omega)] at ev; cases ev
      have e0 : i = ((i.toNat : Nat) : Int) := by omega
      exact ⟨a, vs, i, i.toNat, v, rfl, rfl, ha, by omega, by omega, by rw [e0]; exact seqIndex_nat hlt, ev, q _ _ (hs.eraseIdx _) rv⟩
    · cases e
  · cases e
noncomputable def gReverse (ds as : List D) : Option (List D × D) := match as with
  | [] => some (ds.reverse, .non)
  | _ => none
theorem mu_reverse : MuD X rReverse gReverse := by
  intro H F a vs ds as us ds' d Q s ha hs hus e q
  unfold gReverse at e
  split at e
  · cases e
    cases hus
    exact ⟨a, vs, rfl, rfl, ha, q _ _ hs.reverse .non⟩
  · cases e
end
end DL
namespace DL
open PySem PySem.Spec PyProof.Rows L2
section
variable {X : Cx} {τ τ1 : Tau} {J : Ex}
/-! ### targets -/
abbrev GX := D → En → Option En
noncomputable def Out (ms : List Nat) (σ σ' : L2.St) : Prop := σ'.length = σ.length ∧ ∀ j, j ∉ ms → σ'[j]? = σ[j]?
theorem Out.refl {ms : List Nat} {σ : L2.St} : Out ms σ σ := ⟨rfl, fun _ _ => rfl⟩
theorem Out.trans {m1 m2 : List Nat} {σ σ1 σ2 : L2.St} (a : Out m1 σ σ1) (b : Out m2 σ1 σ2) : Out (m1 ++ m2) σ σ2 := ⟨b.1.trans a.1, fun j h => (b.2 j fun z => h (List.mem_append_right _ z)).trans (a.2 j fun z => h (List.mem_append_left _ z))⟩
structure DG (X : Cx) (τ : Tau) (target : Expr) (set : GX) (τ' : Tau) (ms : List Nat) : Prop where
  go : ∃ g, PG X target g ∧ ∀ (x : V) (d : D) (σ : L2.St) (H F : Hp) (env : En) (fp : Fp) (Q : L2.St → Hp → Prop), SO X.mg X.K τ env σ H F fp → Fz X.mg X.K F d x →
    (∃ env', set d env = some env' ∧ ∀ σ' H' F' fp', SO X.mg X.K τ' env' σ' H' F' fp' → Stp H F (UU fp) H' F' (UU fp') → Out ms σ σ' → Q σ' H') → g x σ H Q
structure DGs (X : Cx) (τ : Tau) (ts : List Expr) (set : List D → En → Option En) (τ' : Tau) (ms : List Nat) : Prop where
  go : ∃ g, PGs X ts g ∧ ∀ (xs : List V) (ds : List D) (σ : L2.St) (H F : Hp) (env : En) (fp : Fp) (Q : L2.St → Hp → Prop), SO X.mg X.K τ env σ H F fp → FzL X.mg X.K F ds xs →
    (∃ env', set ds env = some env' ∧ ∀ σ' H' F' fp', SO X.mg X.K τ' env' σ' H' F' fp' → Stp H F (UU fp) H' F' (UU fp') → Out ms σ σ' → Q σ' H') → g xs σ H Q
noncomputable def gtN (i : Nat) : GX := fun d env => some (env.set i (some d))
theorem dg_name (i : Nat) {x : Str} {pos : Pos} (hN : X.N.Nodup) (hi : X.N[i]? = some x := by rfl) (hl : i < τ.length := by exact Nat.le_of_ble_eq_true rfl) (hx : Loc X.env.scope x := by first | exact .inl rfl | exact .inr rfl) (hf : X.fn x = true ∨ X.env.scope.names.lookup x = some .local := by first | exact .inl rfl | exact .inr rfl | assumption) : DG X τ (.Name x pos) (gtN i) (τ.set i .fz) [i] := by
  refine ⟨_, pg_name hN hi hx hf, fun v d σ H F env fp Q S r ⟨env', e, q⟩ => ?_⟩
  cases e
  obtain ⟨S2, hU⟩ := S.store (.fz r) .nil (fun _ h => h) hl (fun _ _ _ h => by simp at h)
  exact q _ H F _ S2 (Stp.refl.sub fun a h => uf_nil.mp (hU a h)) ⟨List.length_set, fun j h => List.getElem?_set_ne (by simp at h; omega)⟩
noncomputable def gtNil : List D → En → Option En := fun ds env => match ds with | [] => some env | _ => none
noncomputable def gtCons (g : GX) (r : List D → En → Option En) : List D → En → Option En := fun ds env => match ds with | d :: ds => (g d env).bind fun e => r ds e | [] => none
theorem dgs_nil : DGs X τ [] gtNil τ [] := ⟨_, pgs_nil, fun xs ds σ H F env fp Q S r ⟨env', e, q⟩ => by
  unfold gtNil at e
  split at e
  · cases e
    cases r
    exact ⟨rfl, q _ H F fp S Stp.refl .refl⟩
  · cases e⟩
theorem dgs_cons {e : Expr} {es : List Expr} {g : GX} {r : List D → En → Option En} {τ2 : Tau} {m1 m2 : List Nat} (h1 : DG X τ e g τ1 m1) (h2 : DGs X τ1 es r τ2 m2) (hs : (assignEach (e :: es) X.env).map (·.2) = assign e X.env :: (assignEach es X.env).map (·.2) := by rfl) : DGs X τ (e :: es) (gtCons g r) τ2 (m1 ++ m2) := by
  obtain ⟨g1, p1, q1⟩ := h1.go
  obtain ⟨g2, p2, q2⟩ := h2.go
  refine ⟨_, pgs_cons p1 p2 hs, fun xs ds σ H F env fp Q S rr ⟨env', e, q⟩ => ?_⟩
  unfold gtCons at e
  split at e
  · simp only [Option.bind_eq_some_iff] at e
    obtain ⟨env1, e1, e2⟩ := e
    cases rr with
    | cons rh rt =>
    refine ⟨_, _, rfl, q1 _ _ σ H F env fp _ S rh ⟨env1, e1, fun σ1 H1 F1 fp1 S1 s1 o1 => ?_⟩⟩
    exact q2 _ _ σ1 H1 F1 env1 fp1 _ S1 (rt.mono s1.ff) ⟨env', e2, fun σ2 H2 F2 fp2 S2 s2 o2 => q σ2 H2 F2 fp2 S2 (s1.trans s2) (o1.trans o2)⟩
  · cases e
noncomputable def gtTup (n : Nat) (r : List D → En → Option En) : GX := fun d env => match d with | .tup ds => if ds.length = n then r ds env else none | .raw ds => if ds.length = n then r ds env else none | _ => none
theorem dg_tup {es : List Expr} {k : Nat} {r : List D → En → Option En} {n : Nat} {ms : List Nat} {pos : Pos} (hc : X.calm = true) (h : DGs X τ es r τ1 ms) (hn : (assignEach es X.env).length = n := by rfl) (hst : (assignEach es X.env).findIdx? (·.1) = none := by rfl) : DG X τ (.Tuple es k pos) (gtTup n r) τ1 ms := by
  obtain ⟨g, p, q⟩ := h.go
  refine ⟨_, pg_tup hc p hn hst, fun v d σ H F env fp Q S rd ⟨env', e, k⟩ => ?_⟩
  unfold gtTup at e
  split at e
  · split at e
    · rename_i hl
      cases rd with
      | tup ht hs =>
      exact ⟨_, _, rfl, (Same.seqD S.fh ht).toT, by rw [← hs.length]; exact hl, q _ _ σ H F env fp Q S hs ⟨env', e, k⟩⟩
    · cases e
  · split at e
    · rename_i hl
      cases rd with
      | raw ht hs =>
      exact ⟨_, _, rfl, Same.seqT S.fh ht, by rw [← hs.length]; exact hl, q _ _ σ H F env fp Q S hs ⟨env', e, k⟩⟩
    · cases e
  · cases e
noncomputable def sAsg (g : GX) (f : EX) : SX := fun env => (f env).bind fun x => (g x.1 x.2).map .nx
theorem ds_asg {tg e : Expr} {f : EX} {g : GX} {pos : Pos} {b c r : Tau} {w : Ow} {ms : List Nat} (he : DE X τ e f .fz) (hg : DG X τ tg g τ1 ms) (hs : swapsWithSole [tg] e pos.line X.env = pure false := by rfl) (hw : swappedStores [tg] e X.env = pure none := by rfl)
    (h1 : (assignEach [tg] X.env).map (·.2) = [assign tg X.env] := by rfl) : DS X τ (.Assign [tg] e pos) (sAsg g f) ⟨τ1, b, c, r, w⟩ := by
  obtain ⟨t, p, q⟩ := he.go
  obtain ⟨g', p2, q2⟩ := hg.go
  refine ⟨_, ps_asg p p2 hs hw h1, fun D σ H F env fp S ⟨r, e, k⟩ => ?_⟩
  simp only [sAsg, Option.bind_eq_some_iff, Option.map_eq_some_iff] at e
  obtain ⟨⟨d, env1⟩, e1, env2, e2, rfl⟩ := e
  refine q σ H F env fp _ S ⟨d, env1, e1, fun v H' F' fp' fr S' rv f' s => ?_⟩
  obtain ⟨z, rfl⟩ := rv.fz_inv
  exact q2 v d σ H' F' env1 fp' _ S' z ⟨env2, e2, fun σ2 H2 F2 fp2 S2 s2 _ => k σ2 H2 F2 fp2 S2 (s.nofr.trans s2)⟩
/-- x[k] = e, x one's own list -/
noncomputable def gtIx (i : Nat) (fk : EX) : GX := fun d env => (fk env).bind fun x => match (x.2[i]?).join, x.1 with
  | some (.lst ds), .int k => (ixN ds.length k).map fun j => x.2.set i (some (.lst (ds.set j d)))
  | _, _ => none
noncomputable def gtI (i : Nat) (fk : EX) : GX := fun d env => match (env[i]?).join with | some (.lst _) => gtIx i fk d env | _ => none
theorem dg_ix (i : Nat) {x : Str} {k : Expr} {fk : EX} {p pos : Pos} (hk : DE X τ k fk .fz) (o : OwL (tg τ i) := by repeat constructor) (hN : X.N[i]? = some x := by rfl) (hv : Vis X.env.scope x := by first | exact Or.inl rfl | exact Or.inr (Or.inl rfl) | exact Or.inr (Or.inr rfl)) (hd : (x == ("__debug__" : Str)) = false := by decide)
    (hcd : (x == ("__classdict__" : Str)) = false := by decide)
    (ha : ∀ v, assign (.Subscript (.Name x p) k pos) X.env v = (do
      let ov ← holding [v] (eval (.Name x p) X.env)
      let iv ← holding [v, ov] (eval k X.env)
      standAt pos
      holding [v, ov, iv] (setItem ov iv v)
      release [v, ov, iv] []) := by intro _; rfl) : DG X τ (.Subscript (.Name x p) k pos) (gtI i fk) τ [] := by
  obtain ⟨tk, pk, qk⟩ := hk.go
  refine ⟨_, pg_sub (pe_var hN hv hd hcd) pk set_list ha, fun v d σ H F env fp Q S rd ⟨env', e, q⟩ => ?_⟩
  unfold gtI at e
  split at e
  · rename_i dl h0
    obtain ⟨a0, vs0, ds0, z0, ev0, ha0, hs0, k0⟩ := S.own o (en_get h0)
    simp only [gtIx, Option.bind_eq_some_iff] at e
    obtain ⟨⟨kd, env1⟩, e1, e⟩ := e
    refine ⟨_, ev0, qk σ H F env fp _ S ⟨kd, env1, e1, fun vk H1 F1 fp1 fr1 S1 r1 f1 s1 => ?_⟩⟩
    obtain ⟨z1, rfl⟩ := r1.fz_inv
    split at e
    · rename_i ds k h1 h2
      have h2 : kd = .int k := h2
      subst h2
      cases z1
      simp only [Option.map_eq_some_iff] at e
      obtain ⟨j, e2, rfl⟩ := e
      obtain ⟨a, vs, ds2, q1, q2, q3, q4, q5⟩ := S1.own o (en_get h1)
      cases q1
      rw [ev0] at q2; cases q2
      refine ⟨a0, vs, k, j, rfl, rfl, q3, by rw [← q4.length]; exact e2, ?_⟩
      obtain ⟨S2, s2⟩ := q5 (ds.set j d) (vs.set j v) (q4.set j (rd.mono s1.ff))
      exact q σ _ F1 fp1 S2 (s1.nofr.trans s2) .refl
    · cases e
  · cases e
/-- name op= e -/
noncomputable def sAug (i : Nat) (g : D → D → Option D) (f : EX) : SX := fun env => (env[i]?).join.bind fun x => (f env).bind fun y => (g x y.1).map fun d => .nx (y.2.set i (some d))
noncomputable def IpD (X : Cx) (r : TIp) (g : D → D → Option D) : Prop :=
  ∀ (H F : Hp) (x y : D) (vx vy : V) (d : D) (Q : VK), Same F H → Fz X.mg X.K F x vx → Fz X.mg X.K F y vy → g x y = some d → Ans X .fz H F d Q → r vx vy H Q
theorem ds_aug (i : Nat) {x : Str} {op : Operator} {r : TIp} {g : D → D → Option D} {e : Expr} {f : EX} {pos pos' : Pos} {b c r' : Tau} {w : Ow} (ho : PIp X op r) (hg : IpD X r g) (he : DE X τ e f .fz) (hN : X.N.Nodup) (hτ : tg τ i = .fz := by rfl) (hi : X.N[i]? = some x := by rfl) (hl : i < τ.length := by exact Nat.le_of_ble_eq_true rfl) (hx : Loc X.env.scope x := by first | exact .inl rfl | exact .inr rfl)
    (hf : X.fn x = true ∨ X.env.scope.names.lookup x = some .local := by first | exact .inl rfl | exact .inr rfl | assumption) : DS X τ (.AugAssign (.Name x pos') op e pos) (sAug i g f) ⟨τ.set i .fz, b, c, r', w⟩ := by
  obtain ⟨t, p, q⟩ := he.go
  refine ⟨_, ps_aug hN hi hx p ho hf, fun D σ H F env fp S ⟨r, e, k⟩ => ?_⟩
  simp only [sAug, Option.bind_eq_some_iff, Option.map_eq_some_iff] at e
  obtain ⟨xd, h0, ⟨yd, env1⟩, e1, d, e2, rfl⟩ := e
  obtain ⟨vx, ev, rx⟩ := S.rep i _ (en_get h0)
  rw [hτ] at rx
  refine ⟨vx, ev, q σ H F env fp _ S ⟨yd, env1, e1, fun vy H1 F1 fp1 fr1 S1 r1 f1 s1 => ?_⟩⟩
  obtain ⟨z1, rfl⟩ := r1.fz_inv
  refine hg H1 F1 xd yd vx vy d _ S1.fh (rx.fz_inv.1.mono s1.ff) z1 e2 fun v H2 F2 fr2 n2 rv nd hfr => ?_
  obtain ⟨A, B, C⟩ := fin_new S1 s1.nofr n2 nd hfr
  obtain ⟨S2, hU⟩ := A.store rv B (fun _ h => h) hl (brs_out S C)
  exact k _ H2 F2 _ S2 (C.sub hU)
theorem ig_add : IpD X (ipI fun i j => i + j) (gI fun i j => i + j) := by
  intro H F x y vx vy d Q s hx hy e q
  unfold gI at e
  split at e
  · cases hx; cases hy; cases e
    exact ⟨_, _, rfl, rfl, ans_here q s (.int _)⟩
  · cases e
theorem ig_sub : IpD X (ipI fun i j => i - j) (gI fun i j => i - j) := by
  intro H F x y vx vy d Q s hx hy e q
  unfold gI at e
  split at e
  · cases hx; cases hy; cases e
    exact ⟨_, _, rfl, rfl, ans_here q s (.int _)⟩
  · cases e
/-! ### what is walked -/
/-- J gives out ds, whatever becomes of the heap, as long as the borrowed things stand -/
noncomputable def Feeds (mg : Str → Option Value) (K : PySem.W.Frag) (F0 H0 : Hp) (Bd : Addr → Prop) (J : It) (ds : List D) : Prop :=
  ∀ (i : Nat) (H F : Hp), Same F0 F → Same F H → (∀ a, Bd a → ∀ o, H0 a = some o → H a = some o) →
    (ds.length ≤ i → J.stop i H) ∧ ∀ d, ds[i]? = some d → J.go i H ∧ ∀ x H', J.yld i H x H' → ∃ F', New H F H' F' ∧ Fz mg K F' d x
noncomputable def TauBd (τ : Tau) (a : Addr) : Prop := ∃ j, (tg τ j).Brs a
structure DI (X : Cx) (τ : Tau) (tgt iter : Expr) (f : AX) : Prop where
  go : ∃ wi, PI X tgt iter wi ∧ ∀ (σ : L2.St) (H F : Hp) (env : En) (fp : Fp) (R : It → Hp → Prop), SO X.mg X.K τ env σ H F fp →
    (∃ ds env', f env = some (ds, env') ∧ ∀ J H' F' fp', SO X.mg X.K τ env' σ H' F' fp' → Stp H F (UU fp) H' F' (UU fp') → Feeds X.mg X.K F' H' (TauBd τ) J ds → R J H') → wi σ H R
theorem PI.or {tgt iter : Expr} {w1 w2 : TI} (h1 : PI X tgt iter w1) (h2 : PI X tgt iter w2) : PI X tgt iter (fun σ H R => w1 σ H R ∨ w2 σ H R) :=
  ⟨fun pins s σ H R I h => h.elim (h1.run pins s σ H R I) (h2.run pins s σ H R I)⟩
theorem feeds_list {mg : Str → Option Value} {K : PySem.W.Frag} {F0 H0 : Hp} {Bd : Addr → Prop} {a : Addr} {vs : List V} {ds : List D} (hs : FzL mg K F0 ds vs) (h : ∀ (H F : Hp), Same F0 F → Same F H → (∀ a, Bd a → ∀ o, H0 a = some o → H a = some o) → SqL K H a vs) : Feeds mg K F0 H0 Bd (Itl K a) ds := by
  intro i H F s1 s2 hb
  have q := h H F s1 s2 hb
  refine ⟨fun hi => ⟨vs, q, by rw [← hs.length]; exact hi⟩, fun d e => ?_⟩
  obtain ⟨v, ev, rv⟩ := hs.get e
  refine ⟨⟨vs, v, q, ev⟩, fun x H' y => ?_⟩
  obtain ⟨e1, y⟩ := y
  subst e1
  have : vs[i]? = some x := y vs q
  rw [ev] at this; cases this
  exact ⟨F, New.refl s2, rv.mono s1⟩
theorem feeds_tup {mg : Str → Option Value} {K : PySem.W.Frag} {F0 H0 : Hp} {Bd : Addr → Prop} {a : Addr} {vs : List V} {ds : List D} (hs : FzL mg K F0 ds vs) (h : SqT K F0 a vs) : Feeds mg K F0 H0 Bd (Itt K a) ds := by
  intro i H F s1 s2 hb
  have q := Same.seqT s2 (Same.seqT s1 h)
  refine ⟨fun hi => ⟨vs, q, by rw [← hs.length]; exact hi⟩, fun d e => ?_⟩
  obtain ⟨v, ev, rv⟩ := hs.get e
  refine ⟨⟨vs, v, q, ev⟩, fun x H' y => ?_⟩
  obtain ⟨e1, y⟩ := y
  subst e1
  have : vs[i]? = some x := y vs q
  rw [ev] at this; cases this
  exact ⟨F, New.refl s2, rv.mono s1⟩
noncomputable def signsD (z : Str) : List D := z.cps.toList.map fun c => .str ⟨#[c]⟩
theorem feeds_str {mg : Str → Option Value} {K : PySem.W.Frag} {F0 H0 : Hp} {Bd : Addr → Prop} {z : Str} : Feeds mg K F0 H0 Bd (Its z) (signsD z) := by
  intro i H F s1 s2 hb
  have hl : (signsD z).length = z.cps.size := by simp [signsD]
  refine ⟨fun hi => by rw [hl] at hi; exact hi, fun d e => ?_⟩
  unfold signsD at e
  rw [List.getElem?_map] at e
  simp only [Option.map_eq_some_iff] at e
  obtain ⟨c, e1, rfl⟩ := e
  have hlt : i < z.cps.size := by
    by_cases h : i < z.cps.size
    · exact h
    · rw [List.getElem?_eq_none (by simpa using h)] at e1; cases e1
  refine ⟨hlt, fun x H' y => ?_⟩
  obtain ⟨e2, c', e3, rfl⟩ := y
  subst e2
  have : c' = c := by
    rw [← Array.getElem?_toList, e1] at e3
    exact (Option.some.inj e3).symm
  subst this
  exact ⟨F, New.refl s2, .str _⟩
/-- a frozen list, tuple or text -/
noncomputable def iSeq (f : EX) : AX := fun env => (f env).bind fun x => match x.1 with
  | .lst ds => some (ds, x.2)
  | .tup ds => some (ds, x.2)
  | .str z => some (signsD z, x.2)
  | _ => none
theorem di_seq {tgt e : Expr} {f : EX} (h : DE X τ e f .fz) : DI X τ tgt e (iSeq f) := by
  obtain ⟨t, p, q⟩ := h.go
  refine ⟨_, PI.or (pi_list p) (PI.or (pi_tup p) (pi_str p)), fun σ H F env fp R S ⟨ds, env', e, k⟩ => ?_⟩
  simp only [iSeq, Option.bind_eq_some_iff] at e
  obtain ⟨⟨d, env1⟩, e1, e⟩ := e
  split at e
  · rename_i es hd
    have hd : d = .lst es := hd
    subst hd
    cases e
    refine .inl (q σ H F env fp _ S ⟨_, env1, e1, fun v H' F' fp' fr S' rv f' s => ?_⟩)
    obtain ⟨z, rfl⟩ := rv.fz_inv
    cases z with
    | lst hz hs =>
    exact ⟨_, rfl, ⟨_, SqL.of (S'.fh _ _ hz)⟩, k _ H' F' fp' S' s.nofr (feeds_list hs fun H2 F2 s1 s2 _ => SqL.of (s2 _ _ (s1 _ _ hz)))⟩
  · rename_i es hd
    have hd : d = .tup es := hd
    subst hd
    cases e
    refine .inr (.inl (q σ H F env fp _ S ⟨_, env1, e1, fun v H' F' fp' fr S' rv f' s => ?_⟩))
    obtain ⟨z, rfl⟩ := rv.fz_inv
    cases z with
    | tup hz hs =>
    exact ⟨_, rfl, ⟨_, (Same.seqD S'.fh hz).toT⟩, k _ H' F' fp' S' s.nofr (feeds_tup hs hz.toT)⟩
  · rename_i es hd
    have hd : d = .str es := hd
    subst hd
    cases e
    refine .inr (.inr (q σ H F env fp _ S ⟨_, env1, e1, fun v H' F' fp' fr S' rv f' s => ?_⟩))
    obtain ⟨z, rfl⟩ := rv.fz_inv
    cases z
    exact ⟨_, rfl, k _ H' F' fp' S' s.nofr feeds_str⟩
  · cases e
/-- a borrowed list -/
noncomputable def iBr (i : Nat) : AX := fun env => match (env[i]?).join with
  | some (.lst ds) => some (ds, env)
  | _ => none
theorem di_br (i : Nat) {tgt : Expr} {x : Str} {pos : Pos} {a : Addr} (hτ : tg τ i = .br a := by rfl) (hN : X.N[i]? = some x := by rfl) (hv : Vis X.env.scope x := by first | exact Or.inl rfl | exact Or.inr (Or.inl rfl) | exact Or.inr (Or.inr rfl)) (hd : (x == ("__debug__" : Str)) = false := by decide)
    (hcd : (x == ("__classdict__" : Str)) = false := by decide) : DI X τ tgt (.Name x pos) (iBr i) := by
  refine ⟨_, pi_list (pe_var hN hv hd hcd), fun σ H F env fp R S ⟨ds, env', e, k⟩ => ?_⟩
  unfold iBr at e
  split at e
  · rename_i ds0 h0
    cases e
    obtain ⟨v, ev, r⟩ := S.rep i _ (en_get h0)
    rw [hτ] at r
    obtain ⟨vs, ds1, e1, rfl, e3, e4, _⟩ := r.br_inv
    cases e1
    refine ⟨_, ev, _, rfl, ⟨vs, .inl e3⟩, k _ H F fp S Stp.refl (feeds_list e4 fun H2 F2 s1 s2 hb => ?_)⟩
    have hb := hb a ⟨i, by rw [hτ]; exact rfl⟩
    rcases e3 with z | ⟨o, z⟩
    · exact .inl (.inl (hb _ z))
    · exact .inl (.inr ⟨o, hb _ z⟩)
  · cases e
/-- range -/
noncomputable def rngD (lo hi : Int) : List D := (List.range (hi - lo).toNat).map fun (k : Nat) => .int (lo + k)
theorem feeds_range {mg : Str → Option Value} {K : PySem.W.Frag} {F0 H0 : Hp} {Bd : Addr → Prop} {lo hi : Int} : Feeds mg K F0 H0 Bd (Itr lo (hi - lo).toNat) (rngD lo hi) := by
  intro i H F s1 s2 hb
  have hl : (rngD lo hi).length = (hi - lo).toNat := by simp [rngD]
  refine ⟨fun h => by rw [hl] at h; exact h, fun d e => ?_⟩
  unfold rngD at e
  rw [List.getElem?_map] at e
  simp only [Option.map_eq_some_iff] at e
  obtain ⟨c, e1, rfl⟩ := e
  obtain ⟨h1, h2⟩ := List.getElem?_eq_some_iff.mp e1
  rw [List.getElem_range] at h2
  subst h2
  refine ⟨by rw [List.length_range] at h1; exact h1, fun x H' y => ?_⟩
  obtain ⟨e2, rfl⟩ := y
  subst e2
  exact ⟨F, New.refl s2, .int _⟩
noncomputable def near (i : Int) : Bool := ask (-(2 ^ 62) ≤ i ∧ i < 2 ^ 62)
theorem near_ok {i : Int} (h : near i = true) : -(2 ^ 62) ≤ i ∧ i < 2 ^ 62 := of_ask h
noncomputable def gRng1 : List D → Option (List D)
  | [.int j] => if near j = true then some (rngD 0 j) else none
  | _ => none
noncomputable def gRng2 : List D → Option (List D)
  | [.int i, .int j] => if near i = true ∧ near j = true then some (rngD i j) else none
  | _ => none
noncomputable def iRng (g : List D → Option (List D)) (f : AX) : AX := fun env => (f env).bind fun x => (g x.1).map fun ds => (ds, x.2)
theorem di_range1 {tgt a : Expr} {f : AX} {p pos : Pos} (hm : X.mg "range" = none) (h : DA X τ [a] f) (hg : Gl X "range" := by rfl) (hs : starEach [a] X.env = [(false, eval a X.env)] := by rfl) : DI X τ tgt (.Call (.Name "range" p) [a] [] pos) (iRng gRng1 f) := by
  obtain ⟨t, pa, q⟩ := h.go
  refine ⟨_, pi_range1 hg hm pa hs, fun σ H F env fp R S ⟨ds, env', e, k⟩ => ?_⟩
  simp only [iRng, Option.bind_eq_some_iff, Option.map_eq_some_iff] at e
  obtain ⟨⟨as, env1⟩, e1, ds', e2, e3⟩ := e
  cases e3
  refine q σ H F env fp _ S ⟨as, env1, e1, fun vs H1 F1 fp1 S1 r1 s1 => ?_⟩
  unfold gRng1 at e2
  split at e2
  · rename_i j hj
    have hj : as = [.int j] := hj
    subst hj
    split at e2
    · rename_i hn
      cases e2
      obtain ⟨v, rfl, hv⟩ := fz_one r1
      cases hv
      obtain ⟨n1, n2⟩ := near_ok hn
      refine ⟨_, rfl, n1, n2, k _ H1 F1 fp1 S1 s1 ?_⟩
      have := feeds_range (mg := X.mg) (K := X.K) (F0 := F1) (H0 := H1) (Bd := TauBd τ) (lo := 0) (hi := j)
      rw [show (j - 0) = j by omega] at this
      exact this
    · cases e2
  · cases e2
theorem di_range2 {tgt a b : Expr} {f : AX} {p pos : Pos} (hm : X.mg "range" = none) (h : DA X τ [a, b] f) (hg : Gl X "range" := by rfl) (hs : starEach [a, b] X.env = [(false, eval a X.env), (false, eval b X.env)] := by rfl) (hs2 : starEach [b] X.env = [(false, eval b X.env)] := by rfl) : DI X τ tgt (.Call (.Name "range" p) [a, b] [] pos) (iRng gRng2 f) := by
  obtain ⟨t, pa, q⟩ := h.go
  refine ⟨_, pi_range2 hg hm pa hs hs2, fun σ H F env fp R S ⟨ds, env', e, k⟩ => ?_⟩
  simp only [iRng, Option.bind_eq_some_iff, Option.map_eq_some_iff] at e
  obtain ⟨⟨as, env1⟩, e1, ds', e2, e3⟩ := e
  cases e3
  refine q σ H F env fp _ S ⟨as, env1, e1, fun vs H1 F1 fp1 S1 r1 s1 => ?_⟩
  unfold gRng2 at e2
  split at e2
  · rename_i i j hj
    have hj : as = [.int i, .int j] := hj
    subst hj
    split at e2
    · rename_i hn
      cases e2
      obtain rfl := fz_ints2 r1
      obtain ⟨n1, n2⟩ := near_ok hn.1
      obtain ⟨n3, n4⟩ := near_ok hn.2
      exact ⟨_, _, rfl, ⟨n1, n2, n3, n4⟩, k _ H1 F1 fp1 S1 s1 feeds_range⟩
    · cases e2
  · cases e2
/-- range with a step -/
noncomputable def rng3 (i j c : Int) : Option (List D) := if c = -1 ∧ near i = true ∧ near j = true then some ((List.range (i - j).toNat).map fun (k : Nat) => .int (i - k)) else none
noncomputable def gRng3 : List D → Option (List D)
  | [.int i, .int j, .int c] => rng3 i j c
  | _ => none
theorem feeds_rangeC {mg : Str → Option Value} {K : PySem.W.Frag} {F0 H0 : Hp} {Bd : Addr → Prop} {lo : Int} {n : Nat} : Feeds mg K F0 H0 Bd (Itc lo (-1) n) ((List.range n).map fun (k : Nat) => .int (lo - k)) := by
  intro i H F s1 s2 hb
  refine ⟨fun h => by rw [List.length_map, List.length_range] at h; exact h, fun d e => ?_⟩
  rw [List.getElem?_map] at e
  simp only [Option.map_eq_some_iff] at e
  obtain ⟨m, e1, rfl⟩ := e
  obtain ⟨h1, h2⟩ := List.getElem?_eq_some_iff.mp e1
  rw [List.getElem_range] at h2
  subst h2
  refine ⟨by rw [List.length_range] at h1; exact h1, fun x H' y => ?_⟩
  obtain ⟨e2, rfl⟩ := y
  subst e2
  refine ⟨F, New.refl s2, ?_⟩
  rw [show lo + (i : Int) * -1 = lo - i by omega]
  exact .int _
theorem fz_ints3 {F : Hp} {i j c : Int} {vs : List V} (h : FzL X.mg X.K F [.int i, .int j, .int c] vs) : vs = [.int i, .int j, .int c] := by
  cases h with
  | cons a h => cases a; cases h with
    | cons a h => cases a; cases h with
      | cons a h => cases a; cases h; rfl
theorem di_range3 {tgt a b c : Expr} {f : AX} {p pos : Pos} (hm : X.mg "range" = none) (h : DA X τ [a, b, c] f) (hr : ∀ {ta : TA}, PA X [a, b, c] ta → PI X tgt (.Call (.Name "range" p) [a, b, c] [] pos) (iRng3 ta)) : DI X τ tgt (.Call (.Name "range" p) [a, b, c] [] pos) (iRng gRng3 f) := by
  obtain ⟨t, pa, q⟩ := h.go
  refine ⟨_, hr pa, fun σ H F env fp R S ⟨ds, env', e, k⟩ => ?_⟩
  simp only [iRng, Option.bind_eq_some_iff, Option.map_eq_some_iff] at e
  obtain ⟨⟨as, env1⟩, e1, ds', e2, e3⟩ := e
  cases e3
  refine q σ H F env fp _ S ⟨as, env1, e1, fun vs H1 F1 fp1 S1 r1 s1 => ?_⟩
  unfold gRng3 at e2
  split at e2
  · rename_i i j c hj
    have hj : as = [.int i, .int j, .int c] := hj
    subst hj
    unfold rng3 at e2
    split at e2
    · rename_i hn
      cases e2
      obtain rfl := fz_ints3 r1
      obtain ⟨rfl, h1, h2⟩ := hn
      obtain ⟨n1, n2⟩ := near_ok h1
      obtain ⟨n3, n4⟩ := near_ok h2
      exact ⟨_, _, _, _, rfl, RgC.neg n1 n2 n3 n4, k _ H1 F1 fp1 S1 s1 feeds_rangeC⟩
    · cases e2
  · cases e2
/-! ### for -/
noncomputable def fgE (mask : List Nat) (e : En) : En := mask.foldl (fun e i => e.set i none) e
noncomputable def fgt (mask : List Nat) (t : Tau) : Tau := mask.foldl (fun t i => t.set i .fz) t
theorem SO.fz1 {mg : Str → Option Value} {K : PySem.W.Frag} {env : En} {σ : L2.St} {H F : Hp} {fp : Fp} {i : Nat} (S : SO mg K τ env σ H F fp) : SO mg K (τ.set i .fz) (env.set i none) σ H F (fpSet fp i []) := by
  have S' := S.forget (i := i)
  refine ⟨S'.fh, S'.len, by rw [List.length_set]; exact S'.tl, fun j d e => ?_, S'.non, S'.nd, S'.dj, S'.nf, fun j a hb => ?_⟩
  · by_cases hj : j = i
    · subst hj
      by_cases he : j < env.length
      · rw [List.getElem?_set_self he] at e; cases e
      · rw [List.getElem?_eq_none (by simpa using he)] at e; cases e
    · rw [tg_ne hj]; exact S'.rep j d e
  · by_cases hj : j = i
    · subst hj
      by_cases hl : j < τ.length
      · rw [tg_set hl] at hb; exact hb.elim
      · have : tg (τ.set j .fz) j = .fz := by unfold tg; rw [List.getElem?_eq_none (by simpa using hl)]; rfl
        rw [this] at hb; exact hb.elim
    · rw [tg_ne hj] at hb; exact S'.br j a hb
theorem uu_fpSet {fp : Fp} {i : Nat} {a : Addr} (h : UU (fpSet fp i []) a) : UU fp a := by
  obtain ⟨j, m⟩ := h
  by_cases hj : j = i
  · subst hj; rw [fpSet_same] at m; simp at m
  · rw [fpSet_ne hj] at m; exact ⟨j, m⟩
theorem SO.forgets {mg : Str → Option Value} {K : PySem.W.Frag} {σ : L2.St} {H F : Hp} : ∀ (mask : List Nat) {τ : Tau} {env : En} {fp : Fp}, SO mg K τ env σ H F fp → ∃ fp', SO mg K (fgt mask τ) (fgE mask env) σ H F fp' ∧ ∀ a, UU fp' a → UU fp a
  | [], _, _, fp, S => ⟨fp, S, fun _ h => h⟩
  | i :: r, τ, env, fp, S => by
    obtain ⟨fp', S', h⟩ := SO.forgets r (S.fz1 (i := i))
    exact ⟨fp', S', fun a z => uu_fpSet (h a z)⟩
/-- one turn's end, or all -/
noncomputable def forL (set : GX) (body : SX) (mask : List Nat) : List D → SX
  | [] => fun e => some (.nx e)
  | d :: ds => fun e => (set d e).bind fun e1 => (body e1).bind fun r => match r with
    | .nx e2 => forL set body mask ds (fgE mask e2)
    | .ct e2 => forL set body mask ds (fgE mask e2)
    | .bk e2 => some (.nx (fgE mask e2))
    | .rt d e2 => some (.rt d e2)
noncomputable def sFor (it : AX) (set : GX) (body : SX) (mask : List Nat) : SX := fun env => (it env).bind fun x => forL set body mask x.1 x.2
theorem ds_for {tgt iter : Expr} {body : List Stmt} {fi : AX} {set : GX} {fb : SX} {mask : List Nat} {τb n bk ct r : Tau} {w : Ow} {b0 c0 : Tau} {ms : List Nat} {pos : Pos} (hp : PassesOwn (model X.prog X.w) X.A X.env X.xe) (hc : X.calm = true) (hi : DI X τ tgt iter fi) (hg : DG X τ tgt set τb ms) (hb : DSs X τb body fb ⟨n, bk, ct, r, w⟩)
    (hn : fgt mask n = τ := by rfl) (hk : fgt mask bk = τ := by rfl) (hct : fgt mask ct = τ := by rfl) (hs : ∀ x, foldedSetIterable iter X.env x = pure x := by intro _; rfl) : DS X τ (.For tgt iter body [] pos) (sFor fi set fb mask) ⟨τ, b0, c0, r, w⟩ := by
  obtain ⟨wi, pi, qi⟩ := hi.go
  obtain ⟨g, pg, qg⟩ := hg.go
  obtain ⟨tb, pb, qb⟩ := hb.go
  refine ⟨_, ps_for hp hc pi pg pb hs, fun D σ H F env fp S ⟨res, e, k⟩ => ?_⟩
  simp only [sFor, Option.bind_eq_some_iff] at e
  obtain ⟨⟨ds, env1⟩, e1, e2⟩ := e
  refine qi σ H F env fp _ S ⟨ds, env1, e1, fun J H1 F1 fp1 S1 s1 fd => ?_⟩
  refine ⟨fun i m σ H2 => m = ds.length - i ∧ i ≤ ds.length ∧ ∃ env2 F2 fp2, SO X.mg X.K τ env2 σ H2 F2 fp2 ∧ Stp H1 F1 (UU fp1) H2 F2 (UU fp2) ∧ forL set fb mask (ds.drop i) env2 = some res, ⟨ds.length, by omega, Nat.zero_le _, env1, F1, fp1, S1, Stp.refl, e2⟩, ?_⟩
  rintro i m σ2 H2 ⟨rfl, hi, env2, F2, fp2, S2, s2, e3⟩
  have bd : ∀ a, TauBd τ a → ∀ o, H1 a = some o → H2 a = some o := fun a ⟨j, hj⟩ o q => s2.keep a o q (S1.br j a hj).2
  obtain ⟨f1, f2⟩ := fd i H2 F2 s2.ff S2.fh bd
  by_cases hlt : i < ds.length
  · have hd : ds.drop i = ds[i] :: ds.drop (i + 1) := List.drop_eq_getElem_cons hlt
    rw [hd] at e3
    simp only [forL, Option.bind_eq_some_iff] at e3
    obtain ⟨env3, e4, rb, e5, e6⟩ := e3
    obtain ⟨go, yl⟩ := f2 ds[i] (List.getElem?_eq_getElem hlt)
    refine .inr ⟨go, fun σ' H' => ∃ env2 F2 fp2, SO X.mg X.K τ env2 σ' H' F2 fp2 ∧ Stp H1 F1 (UU fp1) H' F2 (UU fp2) ∧ forL set fb mask (ds.drop (i + 1)) env2 = some res, fun σ' H' ⟨a, b, c, d⟩ => ⟨ds.length - (i + 1), by omega, rfl, by omega, a, b, c, d⟩, fun x H' y => ?_⟩
    obtain ⟨F', nw, fx⟩ := yl x H' y
    refine qg x ds[i] σ2 H' F' env2 fp2 _ (S2.new nw) fx ⟨env3, e4, fun σ3 H3 F3 fp3 S3 s3 _ => ?_⟩
    have s13 := (s2.trans nw.stp).trans s3
    refine qb _ σ3 H3 F3 env3 fp3 S3 ⟨rb, e5, ?_⟩
    cases rb with
    | nx e7 =>
      intro σ4 H4 F4 fp4 S4 s4
      obtain ⟨fp5, S5, h5⟩ := S4.forgets mask
      rw [show fgt mask n = τ from hn] at S5
      exact ⟨_, F4, fp5, S5, (s13.trans s4).sub h5, e6⟩
    | ct e7 =>
      intro σ4 H4 F4 fp4 S4 s4
      obtain ⟨fp5, S5, h5⟩ := S4.forgets mask
      rw [show fgt mask ct = τ from hct] at S5
      exact ⟨_, F4, fp5, S5, (s13.trans s4).sub h5, e6⟩
    | bk e7 =>
      intro σ4 H4 F4 fp4 S4 s4
      cases e6
      obtain ⟨fp5, S5, h5⟩ := S4.forgets mask
      rw [show fgt mask bk = τ from hk] at S5
      exact k σ4 H4 F4 fp5 S5 (s1.trans ((s13.trans s4).sub h5))
    | rt d e7 =>
      cases e6
      intro v σ4 H4 F4 fp4 fr4 S4 r4 f4 s4
      exact k v σ4 H4 F4 fp4 fr4 S4 r4 f4 (s1.trans (s13.trans s4))
  · have : i = ds.length := by omega
    subst this
    rw [List.drop_length] at e3
    cases e3
    exact .inl ⟨f1 (Nat.le_refl _), k σ2 H2 F2 fp2 S2 (s1.trans s2)⟩
/-! ### while -/
noncomputable def whileN (c : BX) (body : SX) (mask : List Nat) : Nat → SX
  | 0 => fun _ => none
  | n + 1 => fun e => (c e).bind fun x => if x.1 = true then (body x.2).bind fun r => match r with
      | .nx e2 => whileN c body mask n (fgE mask e2)
      | .ct e2 => whileN c body mask n (fgE mask e2)
      | .bk e2 => some (.nx (fgE mask e2))
      | .rt d e2 => some (.rt d e2)
    else some (.nx (fgE mask x.2))
theorem whileN_mono {c : BX} {body : SX} {mask : List Nat} : ∀ {n : Nat} {e : En} {r : SR}, whileN c body mask n e = some r → whileN c body mask (n + 1) e = some r
  | 0, e, r, h => by cases h
  | n + 1, e, r, h => by
    rw [whileN] at h ⊢
    simp only [Option.bind_eq_some_iff] at h ⊢
    obtain ⟨x, e1, h⟩ := h
    refine ⟨x, e1, ?_⟩
    split at h
    · rename_i hx
      rw [if_pos hx]
      simp only [Option.bind_eq_some_iff] at h ⊢
      obtain ⟨r1, e2, h⟩ := h
      refine ⟨r1, e2, ?_⟩
      cases r1 with
      | nx e3 => exact whileN_mono h
      | ct e3 => exact whileN_mono h
      | bk e3 => exact h
      | rt d e3 => exact h
    · rename_i hx
      rw [if_neg hx]
      exact h
theorem whileN_le {c : BX} {body : SX} {mask : List Nat} {n m : Nat} {e : En} {r : SR} (h : whileN c body mask n e = some r) (hm : n ≤ m) : whileN c body mask m e = some r := by
  induction hm with
  | refl => exact h
  | step _ ih => exact whileN_mono ih
open Classical in
noncomputable def sWhile (c : BX) (body : SX) (mask : List Nat) : SX := fun e => if h : ∃ n, (whileN c body mask n e).isSome = true then whileN c body mask h.choose e else none
theorem sWhile_some {c : BX} {body : SX} {mask : List Nat} {e : En} {r : SR} (h : sWhile c body mask e = some r) : ∃ n, whileN c body mask n e = some r := by
  unfold sWhile at h
  split at h
  · rename_i hn
    exact ⟨_, h⟩
  · cases h
theorem sWhile_of {c : BX} {body : SX} {mask : List Nat} {n : Nat} {e : En} {r : SR} (h : whileN c body mask n e = some r) : sWhile c body mask e = some r := by
  unfold sWhile
  have hn : ∃ n, (whileN c body mask n e).isSome = true := ⟨n, by rw [h]; rfl⟩
  rw [dif_pos hn]
  have h2 := hn.choose_spec
  obtain ⟨r2, e2⟩ := Option.isSome_iff_exists.mp h2
  have a := whileN_le e2 (Nat.le_max_left hn.choose n)
  have b := whileN_le h (Nat.le_max_right hn.choose n)
  rw [e2]
  exact a.symm.trans b
theorem ds_while {c : Expr} {body : List Stmt} {fc : BX} {fb : SX} {mask : List Nat} {n bk ct r : Tau} {w : Ow} {b0 c0 : Tau} {pos : Pos} (hp : PassesOwn (model X.prog X.w) X.A X.env X.xe) (hc : DT X τ c fc) (hb : DSs X τ body fb ⟨n, bk, ct, r, w⟩)
    (hn : fgt mask n = τ := by rfl) (hk : fgt mask bk = τ := by rfl) (hct : fgt mask ct = τ := by rfl) (h0 : fgt mask τ = τ := by rfl) : DS X τ (.While c body [] pos) (sWhile fc fb mask) ⟨τ, b0, c0, r, w⟩ := by
  obtain ⟨tc, pc, qc⟩ := hc.go
  obtain ⟨tb, pb, qb⟩ := hb.go
  refine ⟨_, ps_while hp pc pb, fun D σ H F env fp S ⟨res, e, k⟩ => ?_⟩
  obtain ⟨N, e⟩ := sWhile_some e
  refine ⟨fun m σ H2 => ∃ env2 F2 fp2, SO X.mg X.K τ env2 σ H2 F2 fp2 ∧ Stp H F (UU fp) H2 F2 (UU fp2) ∧ whileN fc fb mask m env2 = some res, ⟨N, env, F, fp, S, Stp.refl, e⟩, ?_⟩
  rintro m σ2 H2 ⟨env2, F2, fp2, S2, s2, e3⟩
  cases m with
  | zero => cases e3
  | succ m =>
  rw [whileN] at e3
  simp only [Option.bind_eq_some_iff] at e3
  obtain ⟨⟨x, env3⟩, e4, e5⟩ := e3
  refine qc σ2 H2 F2 env2 fp2 _ S2 ⟨x, env3, e4, fun H3 F3 fp3 S3 s3 => ?_⟩
  have s13 := s2.trans s3
  cases x with
  | true =>
    rw [if_pos rfl] at e5 ⊢
    simp only [Option.bind_eq_some_iff] at e5
    obtain ⟨rb, e6, e7⟩ := e5
    refine ⟨fun σ' H' => ∃ env2 F2 fp2, SO X.mg X.K τ env2 σ' H' F2 fp2 ∧ Stp H F (UU fp) H' F2 (UU fp2) ∧ whileN fc fb mask m env2 = some res, fun σ' H' q => ⟨m, Nat.lt_succ_self _, q⟩, ?_⟩
    refine qb _ σ2 H3 F3 env3 fp3 S3 ⟨rb, e6, ?_⟩
    cases rb with
    | nx e8 =>
      intro σ4 H4 F4 fp4 S4 s4
      obtain ⟨fp5, S5, h5⟩ := S4.forgets mask
      rw [show fgt mask n = τ from hn] at S5
      exact ⟨_, F4, fp5, S5, (s13.trans s4).sub h5, e7⟩
    | ct e8 =>
      intro σ4 H4 F4 fp4 S4 s4
      obtain ⟨fp5, S5, h5⟩ := S4.forgets mask
      rw [show fgt mask ct = τ from hct] at S5
      exact ⟨_, F4, fp5, S5, (s13.trans s4).sub h5, e7⟩
    | bk e8 =>
      intro σ4 H4 F4 fp4 S4 s4
      cases e7
      obtain ⟨fp5, S5, h5⟩ := S4.forgets mask
      rw [show fgt mask bk = τ from hk] at S5
      exact k σ4 H4 F4 fp5 S5 ((s13.trans s4).sub h5)
    | rt d e8 =>
      cases e7
      intro v σ4 H4 F4 fp4 fr4 S4 r4 f4 s4
      exact k v σ4 H4 F4 fp4 fr4 S4 r4 f4 (s13.trans s4)
  | false =>
    rw [if_neg Bool.false_ne_true] at e5 ⊢
    cases e5
    obtain ⟨fp5, S5, h5⟩ := S3.forgets mask
    rw [h0] at S5
    exact k σ2 H3 F3 fp5 S5 (s13.sub h5)
end
end DL
namespace DL
open PySem PySem.Spec PyProof.Rows L2
/-! ### what a def promises -/
inductive Pm where
  | fz | br | mt (w : Ow)
noncomputable def adr : V → Addr
  | .ref a => a
  | _ => 0
noncomputable def pmO : Pm → V → Ow
  | .fz, _ => .fz
  | .br, v => .br (adr v)
  | .mt w, v => .at (adr v) w
noncomputable def tauA (ms : List Pm) (vs : List V) : Tau := List.zipWith pmO ms vs
abbrev GF := List D → Option (D × En)
/-- a def's promise: its arguments as slots, its value and what becomes of the arguments that it may change -/
noncomputable def SpD (mg : Str → Option Value) (K : PySem.W.Frag) (ms : List Pm) (ρ : Ow) (G : GF) : Sp := fun vs H Q _ =>
  vs.length = ms.length ∧ ∃ (F : Hp) (ds : List D) (fps : Fp) (r : D × En), SO mg K (tauA ms vs) (ds.map some) (vs.map some) H F fps ∧ G ds = some r ∧
    ∀ v H' F' fps' fr, SO mg K (tauA ms vs) r.2 (vs.map some) H' F' fps' → Rp mg K F' H' ρ r.1 v fr → Frs F' fps' fr → Stp H F (UU fps) H' F' (UF fps' fr) → Q v H'
/-- a def of the text that may be called -/
structure Cal (P : Program) (w : World) (K : PySem.W.Frag) (mg : Str → Option Value) (base : Heap) (x : Str) (k : Nat) (ms : List Pm) (ρ : Ow) (G : GF) : Prop where
  go : ∃ (f : Addr) (fd : FuncData) (ps : List Str), FnOk P w K mg base (L2.CX P w) k f fd ps (SpD mg K ms ρ G) ∧ Binds K fd ps [] ∧ mg x = some (.ref f) ∧ PySem.W.keepIn K (.ref f) = true
theorem Cal.mono {P : Program} {w : World} {K : PySem.W.Frag} {mg : Str → Option Value} {base : Heap} {x : Str} {j k : Nat} {ms : List Pm} {ρ : Ow} {G : GF} (c : Cal P w K mg base x j ms ρ G) (h : j ≤ k) : Cal P w K mg base x k ms ρ G := by
  obtain ⟨f, fd, ps, F, b, m, kp⟩ := c.go
  exact ⟨f, fd, ps, F.mono h, b, m, kp⟩
/-! ### the arguments of a call -/
inductive Ak where
  | v | s (i : Nat)
inductive AkV (mg : Str → Option Value) (K : PySem.W.Frag) (σ : L2.St) (F : Hp) : List Ak → List D → List V → Prop
  | nil : AkV mg K σ F [] [] []
  | v {ks : List Ak} {d : D} {ds : List D} {v : V} {vs : List V} : Fz mg K F d v → AkV mg K σ F ks ds vs → AkV mg K σ F (.v :: ks) (d :: ds) (v :: vs)
  | s {ks : List Ak} {i : Nat} {d : D} {ds : List D} {v : V} {vs : List V} : σ[i]? = some (some v) → AkV mg K σ F ks ds vs → AkV mg K σ F (.s i :: ks) (d :: ds) (v :: vs)
theorem AkV.mono {mg : Str → Option Value} {K : PySem.W.Frag} {σ : L2.St} {F F' : Hp} (s : Same F F') : ∀ {ks : List Ak} {ds : List D} {vs : List V}, AkV mg K σ F ks ds vs → AkV mg K σ F' ks ds vs
  | _, _, _, .nil => .nil
  | _, _, _, .v h t => .v (h.mono s) (t.mono s)
  | _, _, _, .s h t => .s h (t.mono s)
structure DAk (X : Cx) (τ : Tau) (es : List Expr) (ks : List Ak) (f : AX) : Prop where
  go : ∃ t, PA X es t ∧ ∀ (σ : L2.St) (H F : Hp) (env : En) (fp : Fp) (Q : List V → Hp → Prop), SO X.mg X.K τ env σ H F fp →
    (∃ ds env', f env = some (ds, env') ∧ ∀ vs H' F' fp', SO X.mg X.K τ env' σ H' F' fp' → AkV X.mg X.K σ F' ks ds vs → Stp H F (UU fp) H' F' (UU fp') → Q vs H') → t σ H Q
noncomputable def aS (i : Nat) (r : AX) : AX := fun env => (env[i]?).join.bind fun _ => (r env).map fun y => (.non :: y.1, y.2)
section
variable {X : Cx} {τ : Tau}
theorem dak_nil : DAk X τ [] [] aN := ⟨_, pa_nil, fun σ H F env fp Q S ⟨ds, env', e, q⟩ => by
  cases e
  exact q [] H F fp S .nil Stp.refl⟩
theorem dak_v {e : Expr} {es : List Expr} {ks : List Ak} {f : EX} {g : AX} (ha : DE X τ e f .fz) (hr : DAk X τ es ks g) (hs : starEach (e :: es) X.env = (false, eval e X.env) :: starEach es X.env := by rfl) : DAk X τ (e :: es) (.v :: ks) (aC f g) := by
  obtain ⟨ta, pa, qa⟩ := ha.go
  obtain ⟨tr, pr, qr⟩ := hr.go
  refine ⟨_, pa_cons pa pr hs, fun σ H F env fp Q S q => ?_⟩
  obtain ⟨ds, env', e, q⟩ := q
  simp only [aC, Option.bind_eq_some_iff, Option.map_eq_some_iff] at e
  obtain ⟨⟨x, env1⟩, e1, ⟨xs, env2⟩, e2, e4⟩ := e
  cases e4
  refine qa σ H F env fp _ S ⟨x, env1, e1, fun vx H1 F1 fp1 fr1 S1 r1 f1 s1 => ?_⟩
  obtain ⟨z1, rfl⟩ := r1.fz_inv
  refine qr σ H1 F1 env1 fp1 _ S1 ⟨xs, env2, e2, fun vs H2 F2 fp2 S2 r2 s2 => ?_⟩
  exact q (vx :: vs) H2 F2 fp2 S2 (.v (z1.mono s2.ff) r2) (s1.nofr.trans s2)
theorem dak_s (i : Nat) {x : Str} {pos : Pos} {es : List Expr} {ks : List Ak} {g : AX} (hr : DAk X τ es ks g) (hs : starEach (.Name x pos :: es) X.env = (false, eval (.Name x pos) X.env) :: starEach es X.env := by rfl) (hN : X.N[i]? = some x := by rfl) (hv : Vis X.env.scope x := by first | exact Or.inl rfl | exact Or.inr (Or.inl rfl) | exact Or.inr (Or.inr rfl)) (hd : (x == ("__debug__" : Str)) = false := by decide)
    (hcd : (x == ("__classdict__" : Str)) = false := by decide) : DAk X τ (.Name x pos :: es) (.s i :: ks) (aS i g) := by
  obtain ⟨tr, pr, qr⟩ := hr.go
  refine ⟨_, pa_cons (pe_var hN hv hd hcd) pr hs, fun σ H F env fp Q S q => ?_⟩
  obtain ⟨ds, env', e, q⟩ := q
  simp only [aS, Option.bind_eq_some_iff, Option.map_eq_some_iff] at e
  obtain ⟨d0, e0, ⟨xs, env2⟩, e2, e4⟩ := e
  cases e4
  obtain ⟨v, ev, _⟩ := S.rep i d0 (en_get e0)
  refine ⟨v, ev, qr σ H F env fp _ S ⟨xs, env2, e2, fun vs H2 F2 fp2 S2 r2 s2 => ?_⟩⟩
  exact q (v :: vs) H2 F2 fp2 S2 (.s ev r2) s2
/-- the arguments' data at the call -/
noncomputable def fill : List Ak → List D → En → Option (List D)
  | [], [], _ => some []
  | .v :: ks, d :: ds, env => (fill ks ds env).map fun r => d :: r
  | .s i :: ks, _ :: ds, env => (env[i]?).join.bind fun d => (fill ks ds env).map fun r => d :: r
  | _, _, _ => none
/-- the slots of the arguments that may change -/
noncomputable def slots : List Pm → List Ak → List (Option Nat)
  | .mt _ :: ms, .s i :: ks => some i :: slots ms ks
  | _ :: ms, _ :: ks => none :: slots ms ks
  | _, _ => []
/-- what they are behind the call -/
noncomputable def puts : List (Option Nat) → En → En → En
  | some i :: ss, x :: r, env => puts ss r (env.set i x)
  | none :: ss, _ :: r, env => puts ss r env
  | _, _, env => env
/-- an ownership of an object -/
inductive MtO : Ow → Prop
  | ls {c : Ow} : NoBr c → MtO (.ls c)
  | at {a : Addr} {w : Ow} : NoBr w → MtO (.at a w)
theorem MtO.noBr {w : Ow} (h : MtO w) : NoBr w := by
  cases h with
  | ls h => exact .ls h
  | «at» h => exact .at h
theorem MtO.ref {mg : Str → Option Value} {K : PySem.W.Frag} {F H : Hp} {w : Ow} (h : MtO w) {d : D} {v : V} {f : List Addr} (r : Rp mg K F H w d v f) : ∃ a, v = .ref a := by
  cases h with
  | ls h => obtain ⟨a, _, _, _, _, e, _⟩ := r.ls_inv; exact ⟨a, e⟩
  | «at» h => exact ⟨_, r.at_inv.1⟩
/-- a kind of argument fits the parameter -/
inductive Fit (τ : Tau) : Pm → Ak → Prop
  | fz : Fit τ .fz .v
  | br {i : Nat} : RdO (tg τ i) → Fit τ .br (.s i)
  | mt {i : Nat} {w : Ow} : tg τ i = w → MtO w → Fit τ (.mt w) (.s i)
  | mta {i : Nat} {w : Ow} {a : Addr} : tg τ i = .at a w → MtO w → Fit τ (.mt w) (.s i)
inductive Fits (τ : Tau) : List Pm → List Ak → Prop
  | nil : Fits τ [] []
  | cons {m : Pm} {k : Ak} {ms : List Pm} {ks : List Ak} : Fit τ m k → Fits τ ms ks → Fits τ (m :: ms) (k :: ks)
/-- no slot is lent out twice where it may change -/
noncomputable def apartB (ss : List (Option Nat)) (ks : List Ak) : Bool :=
  (List.range ks.length).all fun j => (List.range ks.length).all fun j' => match (ss[j]?).join, ks[j']? with
    | some i, some (.s i') => if i = i' then j == j' else true
    | _, _ => true
theorem apartB_ok {ss : List (Option Nat)} {ks : List Ak} (h : apartB ss ks = true) {j j' i : Nat} (h1 : ss[j]? = some (some i)) (hj : j < ks.length) (h2 : ks[j']? = some (.s i)) : j = j' := by
  have hj' : j' < ks.length := by
    by_cases h : j' < ks.length
    · exact h
    · rw [List.getElem?_eq_none (by omega)] at h2; cases h2
  have q := List.all_eq_true.mp (List.all_eq_true.mp h j (List.mem_range.mpr hj)) j' (List.mem_range.mpr hj')
  simp only [h1, h2, Option.join_some, if_true, beq_iff_eq] at q
  exact q
theorem puts_length : ∀ {ss : List (Option Nat)} {outs env : En}, (puts ss outs env).length = env.length
  | [], _, _ => rfl
  | some i :: ss, [], _ => rfl
  | none :: ss, [], _ => rfl
  | some i :: ss, x :: r, env => by rw [puts, puts_length, List.length_set]
  | none :: ss, x :: r, env => by rw [puts, puts_length]
theorem puts_ne : ∀ {ss : List (Option Nat)} {outs env : En} {i : Nat}, (∀ j : Nat, ss[j]? ≠ some (some i)) → (puts ss outs env)[i]? = env[i]?
  | [], _, _, _, _ => rfl
  | some k :: ss, [], _, _, _ => rfl
  | none :: ss, [], _, _, _ => rfl
  | some k :: ss, x :: r, env, i, h => by
    rw [puts, puts_ne fun j => h (j + 1), List.getElem?_set_ne]
    intro e
    exact h 0 (by simp [e])
  | none :: ss, x :: r, env, i, h => by rw [puts, puts_ne fun j => h (j + 1)]
theorem puts_at : ∀ {ss : List (Option Nat)} {outs env : En} {i j : Nat} {x : Option D}, (∀ j j' : Nat, ss[j]? = some (some i) → ss[j']? = some (some i) → j = j') → ss[j]? = some (some i) → outs[j]? = some x → i < env.length → (puts ss outs env)[i]? = some x
  | [], _, _, _, _, _, _, h, _, _ => by simp at h
  | some k :: ss, [], _, _, _, _, _, _, h, _ => by simp at h
  | none :: ss, [], _, _, _, _, _, _, h, _ => by simp at h
  | some k :: ss, y :: r, env, i, 0, x, d, h1, h2, hl => by
    simp only [List.getElem?_cons_zero, Option.some.injEq] at h1 h2
    subst h1 h2
    rw [puts, puts_ne, List.getElem?_set_self hl]
    intro j e
    have := d 0 (j + 1) (by simp) (by simpa using e)
    omega
  | some k :: ss, y :: r, env, i, j + 1, x, d, h1, h2, hl => by
    rw [puts]
    refine puts_at (j := j) (fun a b h3 h4 => ?_) (by simpa using h1) (by simpa using h2) (by rw [List.length_set]; exact hl)
    have := d (a + 1) (b + 1) (by simpa using h3) (by simpa using h4)
    omega
  | none :: ss, y :: r, env, i, 0, x, d, h1, h2, hl => by simp at h1
  | none :: ss, y :: r, env, i, j + 1, x, d, h1, h2, hl => by
    rw [puts]
    refine puts_at (j := j) (fun a b h3 h4 => ?_) (by simpa using h1) (by simpa using h2) hl
    have := d (a + 1) (b + 1) (by simpa using h3) (by simpa using h4)
    omega
theorem slots_iff {τ : Tau} : ∀ {ms : List Pm} {ks : List Ak}, Fits τ ms ks → ∀ (j i : Nat), (slots ms ks)[j]? = some (some i) ↔ ∃ w, ms[j]? = some (.mt w) ∧ ks[j]? = some (.s i)
  | _, _, .nil, j, i => by simp [slots]
  | _, _, .cons (m := m) (k := k) h t, 0, i => by
    cases h with
    | fz => simp [slots]
    | br _ => simp [slots]
    | mt _ _ => simp [slots]
    | mta _ _ => simp [slots]
  | _, _, .cons (m := m) (k := k) h t, j + 1, i => by
    have ih := slots_iff t j i
    cases h with
    | fz => simpa [slots] using ih
    | br _ => simpa [slots] using ih
    | mt _ _ => simpa [slots] using ih
    | mta _ _ => simpa [slots] using ih
noncomputable def KindOk (mg : Str → Option Value) (K : PySem.W.Frag) (σ : L2.St) (F : Hp) (env : En) (d : D) (v : V) : Ak → Prop
  | .v => Fz mg K F d v
  | .s i => σ[i]? = some (some v) ∧ env[i]? = some (some d)
theorem args_at {mg : Str → Option Value} {K : PySem.W.Frag} {σ : L2.St} {F : Hp} {env : En} : ∀ {ms : List Pm} {ks : List Ak} {ds : List D} {vs : List V} {as : List D}, Fits τ ms ks → AkV mg K σ F ks ds vs → fill ks ds env = some as →
    vs.length = ms.length ∧ as.length = ms.length ∧ ks.length = ms.length ∧ ∀ (j : Nat) (m : Pm), ms[j]? = some m → ∃ k d v, ks[j]? = some k ∧ vs[j]? = some v ∧ as[j]? = some d ∧ Fit τ m k ∧ KindOk mg K σ F env d v k
  | _, _, _, _, _, .nil, .nil, e => by
    cases e
    exact ⟨rfl, rfl, rfl, fun j m h => by simp at h⟩
  | _, _, _, _, _, .cons h t, .v hv tv, e => by
    simp only [fill, Option.map_eq_some_iff] at e
    obtain ⟨r, e, rfl⟩ := e
    obtain ⟨l1, l2, l3, q⟩ := args_at t tv e
    refine ⟨congrArg (· + 1) l1, congrArg (· + 1) l2, congrArg (· + 1) l3, fun j m hj => ?_⟩
    cases j with
    | zero =>
      simp only [List.getElem?_cons_zero, Option.some.injEq] at hj
      subst hj
      exact ⟨_, _, _, rfl, rfl, rfl, h, hv⟩
    | succ j => exact q j m (by simpa using hj)
  | _, _, _, _, _, .cons h t, .s hv tv, e => by
    simp only [fill, Option.bind_eq_some_iff, Option.map_eq_some_iff] at e
    obtain ⟨d, e0, r, e, rfl⟩ := e
    obtain ⟨l1, l2, l3, q⟩ := args_at t tv e
    refine ⟨congrArg (· + 1) l1, congrArg (· + 1) l2, congrArg (· + 1) l3, fun j m hj => ?_⟩
    cases j with
    | zero =>
      simp only [List.getElem?_cons_zero, Option.some.injEq] at hj
      subst hj
      exact ⟨_, _, _, rfl, rfl, rfl, h, hv, en_get e0⟩
    | succ j => exact q j m (by simpa using hj)
theorem tauA_at {ms : List Pm} {vs : List V} {j : Nat} {m : Pm} {v : V} (h1 : ms[j]? = some m) (h2 : vs[j]? = some v) : tg (tauA ms vs) j = pmO m v := by
  unfold tg tauA
  rw [List.getElem?_zipWith, h1, h2]; rfl
theorem tauA_out {ms : List Pm} {vs : List V} {j : Nat} (h1 : ms[j]? = none) : tg (tauA ms vs) j = .fz := by
  unfold tg tauA
  rw [List.getElem?_zipWith, h1]; rfl
theorem tauA_length {ms : List Pm} {vs : List V} (h : vs.length = ms.length) : (tauA ms vs).length = vs.length := by
  unfold tauA; rw [List.length_zipWith]; omega
theorem RdO.rdl {mg : Str → Option Value} {K : PySem.W.Frag} {F H : Hp} {w : Ow} (o : RdO w) : ∀ {d : D} {v : V} {f : List Addr}, Rp mg K F H w d v f → ∃ a vs ds, d = .lst ds ∧ v = .ref a ∧ Rd H a (.lst vs) ∧ FzL mg K F ds vs ∧ (a ∈ f ∨ w.Brs a) := by
  induction o with
  | ls =>
    intro d v f h
    obtain ⟨a, vs, ds, g, e1, e2, e3, e4, e5⟩ := h.ls_inv
    exact ⟨a, vs, ds, e1, e2, .inl e3, e4.fzl.1, .inl (by rw [e5]; exact List.mem_cons_self)⟩
  | br a =>
    intro d v f h
    obtain ⟨vs, ds, e1, e2, e3, e4, e5⟩ := h.br_inv
    exact ⟨a, vs, ds, e1, e2, e3, e4, .inr rfl⟩
  | «at» a _ ih =>
    intro d v f h
    obtain ⟨e1, h⟩ := h.at_inv
    obtain ⟨b, vs, ds, q1, q2, q3, q4, q5⟩ := ih h
    exact ⟨b, vs, ds, q1, e1.trans q2, q3, q4, q5⟩
noncomputable def eCall (ms : List Pm) (ks : List Ak) (G : GF) (f : AX) : EX := fun env => (f env).bind fun x => (fill ks x.1 x.2).bind fun as => (G as).map fun r => (r.1, puts (slots ms ks) r.2 x.2)
/-- the call's own frame: the arguments as slots -/
theorem SO.args {mg : Str → Option Value} {K : PySem.W.Frag} {σ : L2.St} {H F : Hp} {env : En} {fp : Fp} {ms : List Pm} {ks : List Ak} {ds : List D} {vs : List V} {as : List D} (S : SO mg K τ env σ H F fp) (hf : Fits τ ms ks) (ha : AkV mg K σ F ks ds vs) (e : fill ks ds env = some as) (hap : apartB (slots ms ks) ks = true) :
    SO mg K (tauA ms vs) (as.map some) (vs.map some) H F (fun j => match ((slots ms ks)[j]?).join with | some i => fp i | none => []) := by
  obtain ⟨l1, l2, l3, at_⟩ := args_at hf ha e
  have sl : ∀ (j i : Nat), ((slots ms ks)[j]?).join = some i ↔ ∃ w, ms[j]? = some (.mt w) ∧ ks[j]? = some (.s i) := fun j i => by
    rw [← slots_iff hf j i]
    cases (slots ms ks)[j]? with
    | none => simp
    | some x => simp
  have inj : ∀ {j j' i : Nat}, ((slots ms ks)[j]?).join = some i → ks[j']? = some (.s i) → j = j' := fun {j j' i} h1 h2 => by
    obtain ⟨w, q1, q2⟩ := (sl j i).mp h1
    have hj : j < ks.length := by
      by_cases h : j < ks.length
      · exact h
      · rw [List.getElem?_eq_none (by omega)] at q2; cases q2
    exact apartB_ok hap ((slots_iff hf j i).mpr ⟨w, q1, q2⟩) hj h2
  have out : ∀ {a : Addr}, UU (fun j => match ((slots ms ks)[j]?).join with | some i => fp i | none => []) a → ∃ j i, ((slots ms ks)[j]?).join = some i ∧ a ∈ fp i := fun {a} ⟨j, m⟩ => by
    cases q : ((slots ms ks)[j]?).join with
    | none => simp only [q] at m; simp at m
    | some i => simp only [q] at m; exact ⟨j, i, q, m⟩
  refine ⟨S.fh, by rw [List.length_map, List.length_map]; omega, by rw [tauA_length l1, List.length_map], fun j d q => ?_, fun j q => ?_, fun j => ?_, fun j k a m1 m2 => ?_, fun j a m => ?_, fun j a hb => ?_⟩
  · rw [List.getElem?_map] at q
    cases q0 : as[j]? with
    | none => rw [q0] at q; cases q
    | some d0 =>
    rw [q0] at q
    have q : d0 = d := by simpa using q
    subst q
    have hj : j < ms.length := by
      by_cases h : j < ms.length
      · exact h
      · rw [List.getElem?_eq_none (by omega)] at q0; cases q0
    obtain ⟨k, d1, v, e1, e2, e3, e4, e5⟩ := at_ j _ (List.getElem?_eq_getElem hj)
    rw [q0] at e3; cases e3
    refine ⟨v, by rw [List.getElem?_map, e2]; rfl, ?_⟩
    rw [tauA_at (List.getElem?_eq_getElem hj) e2]
    generalize hm : ms[j] = m at e4 ⊢
    cases e4 with
    | fz =>
      have : ((slots ms ks)[j]?).join = none := by
        cases z : ((slots ms ks)[j]?).join with
        | none => rfl
        | some i => obtain ⟨w, h1, h2⟩ := (sl j i).mp z; rw [e1] at h2; cases h2
      simp only [this]
      exact .fz e5
    | br ho =>
      have : ((slots ms ks)[j]?).join = none := by
        cases z : ((slots ms ks)[j]?).join with
        | none => rfl
        | some i =>
          obtain ⟨w, h1, h2⟩ := (sl j i).mp z
          rw [List.getElem?_eq_getElem hj, hm] at h1; cases h1
      simp only [this]
      obtain ⟨ev, ed⟩ := e5
      obtain ⟨v', ev', r⟩ := S.rep _ _ ed
      rw [ev] at ev'; cases ev'
      obtain ⟨a, vs1, ds1, rfl, rfl, hr, hs, _⟩ := ho.rdl r
      exact .br hr hs
    | mt ho hn =>
      rename_i i w
      have : ((slots ms ks)[j]?).join = some i := (sl j i).mpr ⟨w, by rw [List.getElem?_eq_getElem hj, hm], e1⟩
      simp only [this]
      obtain ⟨ev, ed⟩ := e5
      obtain ⟨v', ev', r⟩ := S.rep _ _ ed
      rw [ev] at ev'; cases ev'
      rw [ho] at r
      obtain ⟨a, rfl⟩ := hn.ref r
      exact .at r
    | mta ho hn =>
      rename_i i w a
      have : ((slots ms ks)[j]?).join = some i := (sl j i).mpr ⟨w, by rw [List.getElem?_eq_getElem hj, hm], e1⟩
      simp only [this]
      obtain ⟨ev, ed⟩ := e5
      obtain ⟨v', ev', r⟩ := S.rep _ _ ed
      rw [ev] at ev'; cases ev'
      rw [ho] at r
      obtain ⟨rfl, _⟩ := r.at_inv
      exact r
  · have : ((slots ms ks)[j]?).join = none := by
      cases z : ((slots ms ks)[j]?).join with
      | none => rfl
      | some i =>
        obtain ⟨w, h1, h2⟩ := (sl j i).mp z
        have hj : j < as.length := by
          by_cases h : j < ms.length
          · omega
          · rw [List.getElem?_eq_none (by omega)] at h1; cases h1
        rw [List.getElem?_map, List.getElem?_eq_getElem hj] at q
        cases q
    simp only [this]
  · show (match ((slots ms ks)[j]?).join with | some i => fp i | none => []).Nodup
    split
    · exact S.nd _
    · exact List.nodup_nil
  · cases q1 : ((slots ms ks)[j]?).join with
    | none => simp only [q1] at m1; simp at m1
    | some i =>
      cases q2 : ((slots ms ks)[k]?).join with
      | none => simp only [q2] at m2; simp at m2
      | some i2 =>
        simp only [q1] at m1
        simp only [q2] at m2
        have : i = i2 := S.dj i i2 a m1 m2
        subst this
        obtain ⟨w, h1, h2⟩ := (sl k i).mp q2
        exact inj q1 h2
  · cases q1 : ((slots ms ks)[j]?).join with
    | none => simp only [q1] at m; simp at m
    | some i => simp only [q1] at m; exact S.nf i a m
  · have hj : j < ms.length := by
      by_cases h : j < ms.length
      · exact h
      · rw [tauA_out (List.getElem?_eq_none (by omega))] at hb; exact hb.elim
    obtain ⟨k, d1, v, e1, e2, e3, e4, e5⟩ := at_ j _ (List.getElem?_eq_getElem hj)
    rw [tauA_at (List.getElem?_eq_getElem hj) e2] at hb
    generalize hm : ms[j] = m at e4 hb
    cases e4 with
    | fz => exact hb.elim
    | br ho =>
      rename_i i
      obtain ⟨ev, ed⟩ := e5
      obtain ⟨v', ev', r⟩ := S.rep _ _ ed
      rw [ev] at ev'; cases ev'
      obtain ⟨b, vs1, ds1, rfl, rfl, hr, hs, hor⟩ := ho.rdl r
      have hb : b = a := hb
      subst hb
      refine ⟨by rcases hr with z | ⟨o, z⟩ <;> (rw [z]; simp), fun hu => ?_⟩
      obtain ⟨j2, i2, z1, z2⟩ := out hu
      rcases hor with hor | hor
      · have : i2 = i := S.dj i2 i b z2 hor
        subst this
        have h3 := inj z1 e1
        subst h3
        obtain ⟨w, h4, h5⟩ := (sl j2 i2).mp z1
        rw [List.getElem?_eq_getElem hj, hm] at h4; cases h4
      · exact (S.br i b hor).2 ⟨i2, z2⟩
    | mt ho hn => exact absurd hb (hn.noBr.no a)
    | mta ho hn => exact absurd hb (hn.noBr.no a)
/-- behind the call -/
theorem SO.back {mg : Str → Option Value} {K : PySem.W.Frag} {σ : L2.St} {H F H2 F2 : Hp} {env outs : En} {fp fps2 : Fp} {ms : List Pm} {ks : List Ak} {ds : List D} {vs : List V} {as : List D} {ρ : Ow} {d : D} {v : V} {fr : List Addr} (S : SO mg K τ env σ H F fp) (hf : Fits τ ms ks) (ha : AkV mg K σ F ks ds vs) (e : fill ks ds env = some as) (hap : apartB (slots ms ks) ks = true)
    (S2 : SO mg K (tauA ms vs) outs (vs.map some) H2 F2 fps2) (rv : Rp mg K F2 H2 ρ d v fr) (hfr : Frs F2 fps2 fr) (st : Stp H F (UU (fun j => match ((slots ms ks)[j]?).join with | some i => fp i | none => [])) H2 F2 (UF fps2 fr)) :
    ∃ fp2, SO mg K τ (puts (slots ms ks) outs env) σ H2 F2 fp2 ∧ Frs F2 fp2 fr ∧ Stp H F (UU fp) H2 F2 (UF fp2 fr) := by
  obtain ⟨l1, l2, l3, at_⟩ := args_at hf ha e
  have sl : ∀ (j i : Nat), (slots ms ks)[j]? = some (some i) ↔ ∃ w, ms[j]? = some (.mt w) ∧ ks[j]? = some (.s i) := fun j i => slots_iff hf j i
  have jl : ∀ {j i : Nat}, (slots ms ks)[j]? = some (some i) → j < ms.length := fun {j i} h => by
    obtain ⟨w, q1, q2⟩ := (sl j i).mp h
    by_cases h : j < ms.length
    · exact h
    · rw [List.getElem?_eq_none (by omega)] at q1; cases q1
  have inj : ∀ {j j' i : Nat}, (slots ms ks)[j]? = some (some i) → (slots ms ks)[j']? = some (some i) → j = j' := fun {j j' i} h1 h2 => by
    obtain ⟨w, q1, q2⟩ := (sl j' i).mp h2
    exact apartB_ok hap h1 (by have := jl h1; omega) q2
  have old : ∀ {a : Addr}, UU (fun j => match ((slots ms ks)[j]?).join with | some i => fp i | none => []) a → ∃ j i, (slots ms ks)[j]? = some (some i) ∧ a ∈ fp i := fun {a} ⟨j, m⟩ => by
    cases q : (slots ms ks)[j]? with
    | none => simp only [q] at m; simp at m
    | some x =>
      cases x with
      | none => simp only [q] at m; simp at m
      | some i => simp only [q] at m; exact ⟨j, i, q, by simpa using m⟩
  -- who holds slot i
  have who : ∀ i : Nat, ∃ o : Option Nat, (∀ j : Nat, o = some j → (slots ms ks)[j]? = some (some i)) ∧ (o = none → ∀ j : Nat, (slots ms ks)[j]? ≠ some (some i)) := fun i => by
    by_cases h : ∃ j : Nat, (slots ms ks)[j]? = some (some i)
    · obtain ⟨j, h⟩ := h
      refine ⟨some j, ⟨fun j' e => ?_, fun e => by simp at e⟩⟩
      cases e; exact h
    · exact ⟨none, ⟨fun j e => by simp at e, fun _ j q => h ⟨j, q⟩⟩⟩
  obtain ⟨inv, hinv⟩ : ∃ inv : Nat → Option Nat, ∀ i, (∀ j : Nat, inv i = some j → (slots ms ks)[j]? = some (some i)) ∧ (inv i = none → ∀ j : Nat, (slots ms ks)[j]? ≠ some (some i)) :=
    ⟨fun i => (who i).choose, fun i => (who i).choose_spec⟩
  have ol : outs.length = ms.length := by have := S2.len; rw [List.length_map] at this; omega
  let fp2 : Fp := fun i => match inv i with | some j => fps2 j | none => fp i
  have f1 : ∀ {i j : Nat}, inv i = some j → fp2 i = fps2 j := fun {i j} h => by show (match inv i with | some j => fps2 j | none => fp i) = _; rw [h]
  have f2 : ∀ {i : Nat}, inv i = none → fp2 i = fp i := fun {i} h => by show (match inv i with | some j => fps2 j | none => fp i) = _; rw [h]
  have notU : ∀ {i : Nat} {a : Addr}, inv i = none → a ∈ fp i → ¬ UU (fun j => match ((slots ms ks)[j]?).join with | some i => fp i | none => []) a := fun {i a} h m hu => by
    obtain ⟨j, i2, q1, q2⟩ := old hu
    have : i = i2 := S.dj i i2 a m q2
    subst this
    exact (hinv i).2 h j q1
  have bnotU : ∀ {i : Nat} {a : Addr}, (tg τ i).Brs a → ¬ UU (fun j => match ((slots ms ks)[j]?).join with | some i => fp i | none => []) a := fun {i a} h hu => by
    obtain ⟨j, i2, q1, q2⟩ := old hu
    exact (S.br i a h).2 ⟨i2, q2⟩
  have uu2 : ∀ {a : Addr}, UU fp2 a → UU fp a ∨ H a = none := fun {a} ⟨i, m⟩ => by
    cases h : inv i with
    | none => rw [f2 h] at m; exact .inl ⟨i, m⟩
    | some j =>
      rw [f1 h] at m
      rcases st.un a (.inl ⟨j, m⟩) with z | z
      · obtain ⟨_, i2, _, q2⟩ := old z; exact .inl ⟨i2, q2⟩
      · exact .inr z
  have Hne : ∀ {i : Nat} {a : Addr}, a ∈ fp i → H a ≠ none := fun {i a} m => S.uthere ⟨i, m⟩
  have cross : ∀ {i j : Nat} {a : Addr}, inv i = none → a ∈ fp i → a ∉ fps2 j := fun {i j a} h m z => by
    rcases st.un a (.inl ⟨j, z⟩) with q | q
    · exact notU h m q
    · exact Hne m q
  have env2 : ∀ {i j : Nat}, inv i = some j → ∀ {x : Option D}, i < env.length → outs[j]? = some x → (puts (slots ms ks) outs env)[i]? = some x := fun {i j} h {x} hl hx =>
    puts_at (fun a b h1 h2 => inj h1 h2) ((hinv i).1 j h) hx hl
  have env2n : ∀ {i : Nat}, inv i = none → (puts (slots ms ks) outs env)[i]? = env[i]? := fun {i} h => puts_ne ((hinv i).2 h)
  refine ⟨fp2, ⟨S2.fh, by rw [puts_length, S.len], S.tl, fun i d' q => ?_, fun i q => ?_, fun i => ?_, fun i k a m1 m2 => ?_, fun i a m => ?_, fun i a hb => ?_⟩, ⟨hfr.nd, hfr.nf, fun a m => ?_⟩, ⟨fun a o q hu => ?_, st.ff, fun a o q => ?_, fun a q => ?_⟩⟩
  · cases h : inv i with
    | none =>
      rw [env2n h] at q
      obtain ⟨u, ev, r⟩ := S.rep i d' q
      rw [f2 h]
      exact ⟨u, ev, r.move st.ff (fun a m o z => st.keep a o z (notU h m)) fun a hb o z => st.keep a o z (bnotU hb)⟩
    | some j =>
      have hj := (hinv i).1 j h
      have hjl := jl hj
      have hl : i < env.length := by
        by_cases hl : i < env.length
        · exact hl
        · rw [List.getElem?_eq_none (by rw [puts_length]; omega)] at q; cases q
      have hx : outs[j]? = some (outs[j]'(by omega)) := List.getElem?_eq_getElem (by omega)
      rw [env2 h hl hx] at q
      have q : outs[j]'(by omega) = some d' := by simpa using q
      rw [q] at hx
      obtain ⟨w, hw1, hw2⟩ := (sl j i).mp hj
      obtain ⟨k, d1, u, e1, e2, e3, e4, e5⟩ := at_ j _ hw1
      rw [hw2] at e1; cases e1
      obtain ⟨u2, ev2, r⟩ := S2.rep j d' hx
      rw [List.getElem?_map, e2] at ev2
      have ev2 : u = u2 := by simpa using ev2
      subst ev2
      rw [tauA_at hw1 e2] at r
      obtain ⟨ev, ed⟩ := e5
      refine ⟨u, ev, ?_⟩
      rw [f1 h]
      obtain ⟨v0, ev0, r0⟩ := S.rep _ _ ed
      rw [ev] at ev0; cases ev0
      cases e4 with
      | mt ho hn =>
        rw [ho]
        obtain ⟨e6, r⟩ := (show Rp mg K F2 H2 (.at (adr u) w) d' u (fps2 j) from r).at_inv
        rw [e6]; exact r
      | mta ho hn =>
        rw [ho] at r0 ⊢
        obtain ⟨rfl, _⟩ := r0.at_inv
        exact r
  · cases h : inv i with
    | none => rw [env2n h] at q; rw [f2 h]; exact S.non i q
    | some j =>
      have hj := (hinv i).1 j h
      have hjl := jl hj
      rw [f1 h]
      have hx : outs[j]? = some (outs[j]'(by omega)) := List.getElem?_eq_getElem (by omega)
      by_cases hl : i < env.length
      · rw [env2 h hl hx] at q
        have q : outs[j]'(by omega) = none := by simpa using q
        exact S2.non j (by rw [hx, q]; rfl)
      · obtain ⟨w, hw1, hw2⟩ := (sl j i).mp hj
        obtain ⟨k, d1, u, e1, e2, e3, e4, e5⟩ := at_ j _ hw1
        rw [hw2] at e1; cases e1
        obtain ⟨ev, ed⟩ := e5
        rw [List.getElem?_eq_none (by omega)] at ed; cases ed
  · cases h : inv i with
    | none => rw [f2 h]; exact S.nd i
    | some j => rw [f1 h]; exact S2.nd j
  · cases h1 : inv i with
    | none =>
      rw [f2 h1] at m1
      cases h2 : inv k with
      | none => rw [f2 h2] at m2; exact S.dj i k a m1 m2
      | some j => rw [f1 h2] at m2; exact absurd m2 (cross h1 m1)
    | some j =>
      rw [f1 h1] at m1
      cases h2 : inv k with
      | none => rw [f2 h2] at m2; exact absurd m1 (cross h2 m2)
      | some j2 =>
        rw [f1 h2] at m2
        have : j = j2 := S2.dj j j2 a m1 m2
        subst this
        have q1 := (hinv i).1 j h1
        have q2 := (hinv k).1 j h2
        rw [q1] at q2
        simpa using q2
  · cases h : inv i with
    | none =>
      rw [f2 h] at m
      cases z : F2 a with
      | none => rfl
      | some o =>
        rcases st.nw a o z with z | z | z
        · rw [S.nf i a m] at z; cases z
        · exact absurd z (Hne m)
        · exact absurd z (notU h m)
    | some j => rw [f1 h] at m; exact S2.nf j a m
  · obtain ⟨b1, b2⟩ := S.br i a hb
    refine ⟨fun z => ?_, fun hu => ?_⟩
    · cases q : H a with
      | none => exact b1 q
      | some o => rw [st.keep a o q (bnotU hb)] at z; cases z
    · rcases uu2 hu with z | z
      · exact b2 z
      · exact b1 z
  · intro ⟨i, z⟩
    cases h : inv i with
    | none =>
      rw [f2 h] at z
      rcases st.un a (.inr m) with q | q
      · exact notU h z q
      · exact Hne z q
    | some j => rw [f1 h] at z; exact hfr.dj a m ⟨j, z⟩
  · refine st.keep a o q fun z => hu ?_
    obtain ⟨_, i2, _, q2⟩ := old z
    exact ⟨i2, q2⟩
  · rcases st.nw a o q with z | z | z
    · exact .inl z
    · exact .inr (.inl z)
    · obtain ⟨_, i2, _, q2⟩ := old z
      exact .inr (.inr ⟨i2, q2⟩)
  · rcases q with q | q
    · exact uu2 q
    · rcases st.un a (.inr q) with z | z
      · obtain ⟨_, i2, _, q2⟩ := old z; exact .inl ⟨i2, q2⟩
      · exact .inr z
/-- a call of a def of the text -/
theorem de_call {x : Str} {p pos : Pos} {k : Nat} {ms : List Pm} {ks : List Ak} {ρ : Ow} {G : GF} {e : Expr} {es : List Expr} {f : AX} (c : Cal X.prog X.w X.K X.mg X.base x k ms ρ G) (hr : Room k X.A) (ha : DAk X τ (e :: es) ks f) (hf : Fits τ ms ks) (hap : apartB (slots ms ks) ks = true := by rfl) (hg : Gl X x := by rfl)
    (hdb : (x == ("__debug__" : Str)) = false := by decide) (he : starEach (e :: es) X.env = (false, eval e X.env) :: starEach es X.env := by rfl) (hpl : (backTo pos (starEach es X.env)).any (·.1) = false := by rfl) : DE X τ (.Call (.Name x p) (e :: es) [] pos) (eCall ms ks G f) ρ := by
  obtain ⟨fa, fd, ps, F, b, m, kp⟩ := c.go
  obtain ⟨ta, pa, qa⟩ := ha.go
  refine ⟨_, pe_call F hr hg m kp b .nil L2.passL pa hdb he hpl, fun σ H F env fp Q S ⟨d, env', e, q⟩ => ?_⟩
  simp only [eCall, Option.bind_eq_some_iff, Option.map_eq_some_iff] at e
  obtain ⟨⟨ds, env1⟩, e1, as, e2, r, e3, e4⟩ := e
  cases e4
  refine qa σ H F env fp _ S ⟨ds, env1, e1, fun vs H1 F1 fp1 S1 r1 s1 => ?_⟩
  rw [List.append_nil]
  obtain ⟨l1, _⟩ := args_at hf r1 e2
  refine ⟨l1, F1, as, _, r, S1.args hf r1 e2 hap, e3, fun v H2 F2 fps2 fr S2 rv hfr st => ?_⟩
  obtain ⟨fp2, S3, f3, s3⟩ := S1.back hf r1 e2 hap S2 rv hfr st
  exact q v H2 F2 fp2 fr S3 rv f3 (s1.trans s3)
end
end DL
namespace DL
open PySem PySem.Spec PyProof.Rows L2
noncomputable def outs : List Pm → En → En
  | [], _ => []
  | .mt _ :: ms, x :: e => x :: outs ms e
  | .fz :: ms, _ :: e => none :: outs ms e
  | .br :: ms, _ :: e => none :: outs ms e
  | _ :: ms, [] => none :: outs ms []
noncomputable def isFz : Ow → Bool
  | .fz => true
  | _ => false
/-- a def's function of data, from its body's -/
noncomputable def gf (den : SX) (ms : List Pm) (ρ : Ow) (n : Nat) : GF := fun ds => (den (ds.map some ++ List.replicate (n - ds.length) none)).bind fun r => match r with
  | .rt d e => some (d, outs ms e)
  | .nx e => if isFz ρ = true then some (.non, outs ms e) else none
  | _ => none
noncomputable def tauN (ms : List Pm) (vs : List V) (n : Nat) : Tau := tauA ms vs ++ List.replicate (n - vs.length) .fz
/-- what may change is still the one that was handed in -/
noncomputable def Keeps : List Pm → List V → Tau → Prop
  | [], _, _ => True
  | .mt w :: ms, v :: vs, t :: τ => t = .at (adr v) w ∧ Keeps ms vs τ
  | .fz :: ms, _ :: vs, _ :: τ => Keeps ms vs τ
  | .br :: ms, _ :: vs, _ :: τ => Keeps ms vs τ
  | _, _, _ => False
theorem Keeps.at : ∀ {ms : List Pm} {vs : List V} {τ : Tau}, Keeps ms vs τ → ∀ {i : Nat} {w : Ow} {v : V}, ms[i]? = some (.mt w) → vs[i]? = some v → tg τ i = .at (adr v) w
  | .mt w :: ms, v :: vs, t :: τ, h, 0, w', v', h1, h2 => by
    simp only [List.getElem?_cons_zero, Option.some.injEq, Pm.mt.injEq] at h1 h2
    subst h1 h2
    exact h.1
  | .mt w :: ms, v :: vs, t :: τ, h, i + 1, w', v', h1, h2 => Keeps.at (τ := τ) h.2 (i := i) (by simpa using h1) (by simpa using h2)
  | .fz :: ms, v :: vs, t :: τ, h, 0, w', v', h1, h2 => by simp at h1
  | .fz :: ms, v :: vs, t :: τ, h, i + 1, w', v', h1, h2 => Keeps.at (τ := τ) (ms := ms) (vs := vs) h (i := i) (by simpa using h1) (by simpa using h2)
  | .br :: ms, v :: vs, t :: τ, h, 0, w', v', h1, h2 => by simp at h1
  | .br :: ms, v :: vs, t :: τ, h, i + 1, w', v', h1, h2 => Keeps.at (τ := τ) (ms := ms) (vs := vs) h (i := i) (by simpa using h1) (by simpa using h2)
  | [], _, _, _, i, w', v', h1, h2 => by simp at h1
theorem outs_length : ∀ {ms : List Pm} {e : En}, (outs ms e).length = ms.length
  | [], _ => rfl
  | .mt w :: ms, x :: e => congrArg (· + 1) outs_length
  | .fz :: ms, x :: e => congrArg (· + 1) outs_length
  | .br :: ms, x :: e => congrArg (· + 1) outs_length
  | .mt w :: ms, [] => congrArg (· + 1) outs_length
  | .fz :: ms, [] => congrArg (· + 1) outs_length
  | .br :: ms, [] => congrArg (· + 1) outs_length
theorem outs_some : ∀ {ms : List Pm} {e : En} {i : Nat} {d : D}, (outs ms e)[i]? = some (some d) → (∃ w, ms[i]? = some (.mt w)) ∧ e[i]? = some (some d)
  | [], _, _, _, h => by simp [outs] at h
  | .mt w :: ms, x :: e, 0, d, h => by simp only [outs, List.getElem?_cons_zero] at h ⊢; exact ⟨⟨w, rfl⟩, h⟩
  | .mt w :: ms, x :: e, i + 1, d, h => by simp only [outs, List.getElem?_cons_succ] at h ⊢; exact outs_some h
  | .fz :: ms, x :: e, 0, d, h => by simp [outs] at h
  | .fz :: ms, x :: e, i + 1, d, h => by simp only [outs, List.getElem?_cons_succ] at h ⊢; exact outs_some h
  | .br :: ms, x :: e, 0, d, h => by simp [outs] at h
  | .br :: ms, x :: e, i + 1, d, h => by simp only [outs, List.getElem?_cons_succ] at h ⊢; exact outs_some h
  | .mt w :: ms, [], 0, d, h => by simp [outs] at h
  | .mt w :: ms, [], i + 1, d, h => by
    simp only [outs, List.getElem?_cons_succ] at h
    have := (outs_some h).2; simp at this
  | .fz :: ms, [], 0, d, h => by simp [outs] at h
  | .fz :: ms, [], i + 1, d, h => by
    simp only [outs, List.getElem?_cons_succ] at h
    have := (outs_some h).2; simp at this
  | .br :: ms, [], 0, d, h => by simp [outs] at h
  | .br :: ms, [], i + 1, d, h => by
    simp only [outs, List.getElem?_cons_succ] at h
    have := (outs_some h).2; simp at this
section
variable {mg : Str → Option Value} {K : PySem.W.Frag} {H F : Hp} {fps : Fp} {ms : List Pm} {vs : List V} {ds : List D}
theorem tg_app {a b : Tau} {i : Nat} (h : i < a.length) : tg (a ++ b) i = tg a i := by unfold tg; rw [List.getElem?_append_left h]
theorem tg_rep {a : Tau} {n i : Nat} (h : a.length ≤ i) : tg (a ++ List.replicate n .fz) i = .fz := by
  unfold tg
  rw [List.getElem?_append_right h, List.getElem?_replicate]
  split <;> rfl
theorem SO.grow {N : List Str} (S : SO mg K (tauA ms vs) (ds.map some) (vs.map some) H F fps) (hl : vs.length = ms.length) (hN : vs.length ≤ N.length) : SO mg K (tauN ms vs N.length) (ds.map some ++ List.replicate (N.length - ds.length) none) (L2.start N vs) H F fps := by
  have e1 := S.len
  rw [List.length_map, List.length_map] at e1
  have tl := tauA_length hl
  refine ⟨S.fh, by unfold L2.start; simp only [List.length_append, List.length_map, List.length_replicate]; omega, by unfold L2.start tauN; simp only [List.length_append, List.length_map, List.length_replicate]; omega, fun i d e => ?_, fun i e => ?_, S.nd, S.dj, S.nf, fun i a hb => ?_⟩
  · by_cases hi : i < ds.length
    · rw [List.getElem?_append_left (by simpa using hi)] at e
      obtain ⟨v, ev, r⟩ := S.rep i d e
      refine ⟨v, ?_, ?_⟩
      · unfold L2.start; rw [List.getElem?_append_left (by rw [List.length_map]; omega)]; exact ev
      · unfold tauN; rw [tg_app (by omega)]; exact r
    · rw [List.getElem?_append_right (by simpa using hi), List.getElem?_replicate] at e
      split at e <;> cases e
  · by_cases hi : i < ds.length
    · rw [List.getElem?_append_left (by simpa using hi)] at e
      exact S.non i e
    · exact S.non i (by rw [List.getElem?_eq_none (by simpa using hi)]; rfl)
  · by_cases hi : i < (tauA ms vs).length
    · unfold tauN at hb; rw [tg_app hi] at hb; exact S.br i a hb
    · unfold tauN at hb; rw [tg_rep (by omega)] at hb; exact hb.elim
open Classical in
theorem SO.outs {τ : Tau} {env : En} {σ : L2.St} {H' F' : Hp} {fp' : Fp} {fr : List Addr} {envA : En} (S0 : SO mg K (tauA ms vs) envA (vs.map some) H F fps) (hl : vs.length = ms.length) (hA : ∀ i : Nat, i < ms.length → ∃ d, envA[i]? = some (some d)) (S : SO mg K τ env σ H' F' fp') (hk : Keeps ms vs τ) (s : Stp H F (UU fps) H' F' (UF fp' fr)) (f : Frs F' fp' fr) :
    ∃ fpo, SO mg K (tauA ms vs) (DL.outs ms env) (vs.map some) H' F' fpo ∧ Frs F' fpo fr ∧ Stp H F (UU fps) H' F' (UF fpo fr) := by
  let fpo : Fp := fun i => if ∃ d, (DL.outs ms env)[i]? = some (some d) then fp' i else []
  have o1 : ∀ {i : Nat} {d : D}, (DL.outs ms env)[i]? = some (some d) → fpo i = fp' i := fun {i d} h => if_pos ⟨d, h⟩
  have sub : ∀ {i : Nat} {a : Addr}, a ∈ fpo i → a ∈ fp' i := fun {i a} m => by
    by_cases h : ∃ d, (DL.outs ms env)[i]? = some (some d)
    · have : fpo i = fp' i := if_pos h
      rw [this] at m; exact m
    · have : fpo i = [] := if_neg h
      rw [this] at m; simp at m
  have subU : ∀ {a : Addr}, UU fpo a → UU fp' a := fun {a} ⟨i, m⟩ => ⟨i, sub m⟩
  refine ⟨fpo, ⟨S.fh, by rw [outs_length, List.length_map]; omega, by rw [tauA_length hl, List.length_map], fun i d e => ?_, fun i e => ?_, fun i => ?_, fun i j a m1 m2 => S.dj i j a (sub m1) (sub m2), fun i a m => S.nf i a (sub m), fun i a hb => ?_⟩, ⟨f.nd, f.nf, fun a m z => f.dj a m (subU z)⟩, s.sub fun a h => h.elim (fun z => .inl (subU z)) .inr⟩
  · obtain ⟨⟨w, hw⟩, e2⟩ := outs_some e
    have hi : i < ms.length := by
      by_cases h : i < ms.length
      · exact h
      · rw [List.getElem?_eq_none (by omega)] at hw; cases hw
    obtain ⟨v, hv⟩ : ∃ v, vs[i]? = some v := ⟨vs[i]'(by omega), List.getElem?_eq_getElem (by omega)⟩
    obtain ⟨u, ev, r⟩ := S.rep i d e2
    rw [hk.at hw hv] at r
    obtain ⟨rfl, _⟩ := r.at_inv
    rw [o1 e, tauA_at hw hv]
    have q : ∃ a, v = .ref a := by
      have hh : tg (tauA ms vs) i = .at (adr v) w := tauA_at hw hv
      obtain ⟨d0, hd0⟩ := hA i hi
      obtain ⟨v0, hv0, r0⟩ := S0.rep i d0 hd0
      rw [List.getElem?_map, hv] at hv0
      have hv0 : v = v0 := by simpa using hv0
      subst hv0
      rw [hh] at r0
      exact ⟨_, r0.at_inv.1⟩
    obtain ⟨a, rfl⟩ := q
    exact ⟨.ref a, by rw [List.getElem?_map, hv]; rfl, r⟩
  · refine if_neg fun ⟨d, h⟩ => ?_
    rw [h] at e; cases e
  · show (if ∃ d, (DL.outs ms env)[i]? = some (some d) then fp' i else []).Nodup
    split
    · exact S.nd i
    · exact List.nodup_nil
  · obtain ⟨b1, b2⟩ := S0.br i a hb
    refine ⟨fun z => ?_, fun hu => ?_⟩
    · cases q : H a with
      | none => exact b1 q
      | some o => rw [s.keep a o q b2] at z; cases z
    · rcases s.un a (.inl (subU hu)) with z | z
      · exact b2 z
      · exact b1 z
end
/-- the context of a def's body, nothing let out -/
abbrev CtxN (P : Program) (w : World) (K : PySem.W.Frag) (mg : Str → Option Value) (base : Heap) (N : List Str) (qual : Str) (scope : Scope) (f : Addr) (cd : Value) (A : Around) (outer : List Env) (s : Shared) (H : Hp) (E : XK) : Cx :=
  (cxOf (L2.CX P w) P w K mg base N qual scope f cd A outer s H E).nox
theorem fn_of {P : Program} {w : World} {K : PySem.W.Frag} {mg : Str → Option Value} {base : Heap} {x qual : Str} {st : Stmt} {f : Addr} {fd : FuncData} {N ps : List Str} {k : Nat} {ms : List Pm} {ρ : Ow} (F : Fun K x qual st f fd) (S : FnScope N ps (defScope st)) (den : SX) (hl : ps.length = ms.length)
    (hbody : ∀ (cdv : Value) (A : Around) (outer : List Env) (s : Shared) (H : Hp) (E : XK), Room k (A.deeper (envOfC qual (defScope st) s.heap.objs.size f cdv)) → ∀ vs : List V, vs.length = ms.length →
      ∃ nx bk ct rτ, DSs (CtxN P w K mg base N qual (defScope st) f cdv A outer s H E) (tauN ms vs N.length) (defBody st) den ⟨nx, bk, ct, rτ, ρ⟩ ∧ Keeps ms vs rτ ∧ (isFz ρ = true → Keeps ms vs nx)) :
    FnOk P w K mg base (L2.CX P w) (k + 1) f fd ps (SpD mg K ms ρ (gf den ms ρ N.length)) := by
  refine F.okX S (fun vs H Q E h => by rw [h.1, hl]) (fun cdv A outer s H vs Q E hr h => ?_)
  obtain ⟨l1, F0, ds, fps, r, S0, e, k0⟩ := h
  obtain ⟨nx, bk, ct, rτ, hd, kr, kn⟩ := hbody cdv A outer s H E hr vs l1
  obtain ⟨t, p, q⟩ := hd.go
  have hpl : ps.length ≤ N.length := by have := congrArg List.length S.pre; rw [List.length_take] at this; omega
  have e1 := S0.len
  rw [List.length_map, List.length_map] at e1
  have hA : ∀ i : Nat, i < ms.length → ∃ d, (ds.map some)[i]? = some (some d) := fun i hi => ⟨ds[i]'(by omega), by rw [List.getElem?_map, List.getElem?_eq_getElem (by omega)]; rfl⟩
  refine ⟨t, p.nox, ?_⟩
  simp only [gf, Option.bind_eq_some_iff] at e
  obtain ⟨sr, e2, e3⟩ := e
  refine q _ _ _ F0 _ fps (S0.grow l1 (by omega)) ⟨sr, e2, ?_⟩
  cases sr with
  | nx env' =>
    have e3 : (if isFz ρ = true then some (D.non, outs ms env') else none) = some r := e3
    split at e3
    · rename_i hρ
      cases e3
      intro σ' H' F' fp' S' s'
      obtain ⟨fpo, A1, B1, C1⟩ := SO.outs S0 l1 hA S' (kn hρ) s'.tofr (Frs.nil (F' := F') (fp' := fp'))
      have : ρ = .fz := by cases ρ <;> first | rfl | cases hρ
      subst this
      exact k0 .non H' F' fpo [] A1 (.fz .non) B1 C1
    · cases e3
  | rt d env' =>
    cases e3
    intro v σ' H' F' fp' fr S' rv f' s'
    obtain ⟨fpo, A1, B1, C1⟩ := SO.outs S0 l1 hA S' kr s' f'
    exact k0 v H' F' fpo fr A1 rv B1 C1
  | bk env' => cases e3
  | ct env' => cases e3
theorem cal_of {P : Program} {w : World} {K : PySem.W.Frag} {mg : Str → Option Value} {base : Heap} {x qual : Str} {st : Stmt} {f : Addr} {fd : FuncData} {N ps : List Str} {k : Nat} {ms : List Pm} {ρ : Ow} (F : Fun K x qual st f fd) (S : FnScope N ps (defScope st)) (hb : Binds K fd ps []) (hm : mg x = some (.ref f)) (den : SX) (hl : ps.length = ms.length)
    (hbody : ∀ (cdv : Value) (A : Around) (outer : List Env) (s : Shared) (H : Hp) (E : XK), Room k (A.deeper (envOfC qual (defScope st) s.heap.objs.size f cdv)) → ∀ vs : List V, vs.length = ms.length →
      ∃ nx bk ct rτ, DSs (CtxN P w K mg base N qual (defScope st) f cdv A outer s H E) (tauN ms vs N.length) (defBody st) den ⟨nx, bk, ct, rτ, ρ⟩ ∧ Keeps ms vs rτ ∧ (isFz ρ = true → Keeps ms vs nx)) :
    Cal P w K mg base x (k + 1) ms ρ (gf den ms ρ N.length) :=
  ⟨⟨f, fd, ps, fn_of F S den hl hbody, hb, hm, F.kp⟩⟩
end DL
namespace DL
open PySem PySem.Spec PyProof.Rows L2
/-! ### the readings in one form -/
noncomputable def tD (mg : Str → Option Value) (K : PySem.W.Frag) (τ : Tau) (f : EX) (ρ : Ow) : TE := fun σ H Q => ∃ F env fp, SO mg K τ env σ H F fp ∧ ∃ d env', f env = some (d, env') ∧ ∀ v H' F' fp' fr, SO mg K τ env' σ H' F' fp' → Rp mg K F' H' ρ d v fr → Frs F' fp' fr → Stp H F (UU fp) H' F' (UF fp' fr) → Q v H'
noncomputable def ttD (mg : Str → Option Value) (K : PySem.W.Frag) (τ : Tau) (f : BX) : TT := fun σ H Q => ∃ F env fp, SO mg K τ env σ H F fp ∧ ∃ d env', f env = some (d, env') ∧ ∀ H' F' fp', SO mg K τ env' σ H' F' fp' → Stp H F (UU fp) H' F' (UU fp') → Q d H'
noncomputable def gD (mg : Str → Option Value) (K : PySem.W.Frag) (τ : Tau) (set : GX) (τ' : Tau) (ms : List Nat) : TG := fun x σ H Q => ∃ F env fp d, SO mg K τ env σ H F fp ∧ Fz mg K F d x ∧ ∃ env', set d env = some env' ∧ ∀ σ' H' F' fp', SO mg K τ' env' σ' H' F' fp' → Stp H F (UU fp) H' F' (UU fp') → Out ms σ σ' → Q σ' H'
section
variable {X : Cx} {τ τ1 : Tau}
theorem DE.pe {e : Expr} {f : EX} {ρ : Ow} (h : DE X τ e f ρ) : PE X e (tD X.mg X.K τ f ρ) := by
  obtain ⟨t, p, q⟩ := h.go
  exact ⟨fun pins s σ H Q I ⟨F, env, fp, S, k⟩ => p.run pins s σ H Q I (q σ H F env fp Q S k)⟩
theorem DT.pt {e : Expr} {f : BX} (h : DT X τ e f) : PT X e (ttD X.mg X.K τ f) := by
  obtain ⟨t, p, q⟩ := h.go
  exact ⟨fun pins s σ H Q I ⟨F, env, fp, S, k⟩ => p.run pins s σ H Q I (q σ H F env fp Q S k)⟩
theorem DG.pg {e : Expr} {set : GX} {ms : List Nat} (h : DG X τ e set τ1 ms) : PG X e (gD X.mg X.K τ set τ1 ms) := by
  obtain ⟨t, p, q⟩ := h.go
  exact ⟨fun pins s σ H v u Q I r ⟨F, env, fp, d, S, z, k⟩ => p.run pins s σ H v u Q I r (q v d σ H F env fp Q S z k)⟩
/-- a clause's tests -/
structure DTs (X : Cx) (τ : Tau) (ifs : List Expr) (f : BX) : Prop where
  pts : PTs X ifs (ttD X.mg X.K τ f)
theorem dts_nil : DTs X τ [] (fun env => some (true, env)) := ⟨⟨fun pins s σ H Q I ⟨F, env, fp, S, d, env', e, k⟩ => by
  cases e
  exact pts_nil.run pins s σ H Q I (k H F fp S Stp.refl)⟩⟩
theorem dts_one {c : Expr} {f : BX} (h : DT X τ c f) : DTs X τ [c] f := ⟨pts_one h.pt⟩
/-! ### weakening -/
open Classical in
theorem de_fz {e : Expr} {f : EX} {ρ : Ow} (h : DE X τ e f ρ) (n : NoBr ρ := by repeat constructor) : DE X τ e f .fz := by
  obtain ⟨t, p, q⟩ := h.go
  refine ⟨t, p, fun σ H F env fp Q S ⟨d, env', e, k⟩ => q σ H F env fp Q S ⟨d, env', e, fun v H' F' fp' fr S' rv f' s => ?_⟩⟩
  let F2 : Hp := fun a => if a ∈ fr then H' a else F' a
  have hF1 : ∀ a, a ∈ fr → F2 a = H' a := fun a m => if_pos m
  have hF2 : ∀ a, a ∉ fr → F2 a = F' a := fun a m => if_neg m
  have ss : Same F' F2 := fun a o e => by
    by_cases m : a ∈ fr
    · rw [f'.nf a m] at e; cases e
    · rw [hF2 a m]; exact e
  have nbr := brs_out S s
  refine k v H' F2 fp' [] ⟨fun a o e => ?_, S'.len, S'.tl, fun i d e => ?_, S'.non, S'.nd, S'.dj, fun i a m => ?_, S'.br⟩ (.fz (rv.freeze ss n hF1)) .nil ⟨s.keep, s.ff.trans ss, fun a o e => ?_, fun a h => s.un a (.inl (uf_nil.mp h))⟩
  · by_cases m : a ∈ fr
    · rw [hF1 a m] at e; exact e
    · rw [hF2 a m] at e; exact S'.fh a o e
  · obtain ⟨v, ev, r⟩ := S'.rep i d e
    exact ⟨v, ev, r.move ss (fun a _ o e => e) fun a _ o e => e⟩
  · rw [hF2 a fun z => f'.dj a z ⟨i, m⟩]
    exact S'.nf i a m
  · by_cases m : a ∈ fr
    · rcases s.un a (.inr m) with z | z
      · exact .inr (.inr z)
      · exact .inr (.inl z)
    · rw [hF2 a m] at e; exact s.nw a o e
/-! ### list comprehensions -/
theorem wipe_at {σ : L2.St} {i : Nat} : ∀ {vs : List Nat}, i ∈ vs → i < σ.length → (wipe σ vs)[i]? = some none
  | v :: vs, h, hl => by
    unfold wipe
    by_cases e : v = i
    · subst e
      rw [List.getElem?_set_self (by rw [wipe_length]; exact hl)]
    · rw [List.getElem?_set_ne e]
      exact wipe_at (by rcases List.mem_cons.mp h with z | z; exact absurd z.symm e; exact z) hl
theorem Out.wipe {ms vs : List Nat} {σ σ' : L2.St} (o : Out ms σ σ') (h : ∀ i ∈ ms, i ∈ vs) : wipe σ' vs = wipe σ vs := by
  refine List.ext_getElem? fun i => ?_
  by_cases hi : i ∈ vs
  · by_cases hl : i < σ.length
    · rw [wipe_at hi hl, wipe_at hi (by rw [o.1]; exact hl)]
    · rw [List.getElem?_eq_none (by rw [wipe_length]; have := o.1; omega), List.getElem?_eq_none (by rw [wipe_length]; omega)]
  · rw [wipe_out hi, wipe_out hi]
    exact o.2 i fun z => hi (h i z)
theorem wipe_wipe {σ : L2.St} {vs : List Nat} : wipe (wipe σ vs) vs = wipe σ vs := by
  refine List.ext_getElem? fun i => ?_
  by_cases hi : i ∈ vs
  · by_cases hl : i < σ.length
    · rw [wipe_at hi (by rw [wipe_length]; exact hl), wipe_at hi hl]
    · rw [List.getElem?_eq_none (by rw [wipe_length, wipe_length]; omega), List.getElem?_eq_none (by rw [wipe_length]; omega)]
  · rw [wipe_out hi]
/-- own names are without values -/
noncomputable def Bare (vs : List Nat) (env : En) : Prop := ∀ i ∈ vs, env[i]?.join = none
theorem fgE_bare : ∀ {vs : List Nat} {env : En}, Bare vs (fgE vs env) := by
  have key : ∀ (vs : List Nat) (env : En) (i : Nat), (env[i]?.join = none ∨ i ∈ vs) → (fgE vs env)[i]?.join = none := by
    intro vs
    induction vs with
    | nil => intro env i h; rcases h with h | h; exact h; simp at h
    | cons v vs ih =>
      intro env i h
      show (fgE vs (env.set v none))[i]?.join = none
      refine ih _ i ?_
      by_cases e : v = i
      · subst e
        left
        by_cases hl : v < env.length
        · rw [List.getElem?_set_self hl]; rfl
        · rw [List.getElem?_eq_none (by rw [List.length_set]; omega)]; rfl
      · rw [List.getElem?_set_ne e]
        rcases h with h | h
        · exact .inl h
        · rcases List.mem_cons.mp h with z | z
          · exact absurd z.symm e
          · exact .inr z
  exact fun {vs env} i hi => key vs env i (.inr hi)
theorem SO.swap {mg : Str → Option Value} {K : PySem.W.Frag} {env : En} {σ σ' : L2.St} {H F : Hp} {fp : Fp} {vs : List Nat} (S : SO mg K τ env σ H F fp) (b : Bare vs env) (hl : σ'.length = σ.length) (h : ∀ i, i ∉ vs → σ'[i]? = σ[i]?) : SO mg K τ env σ' H F fp :=
  ⟨S.fh, by rw [S.len, hl], by rw [S.tl, hl], fun i d e => by
    obtain ⟨v, ev, r⟩ := S.rep i d e
    refine ⟨v, ?_, r⟩
    rw [h i fun z => by have := b i z; rw [e] at this; cases this]
    exact ev, S.non, S.nd, S.dj, S.nf, S.br⟩
noncomputable def compL (set : GX) (cond : BX) (elt : EX) (vs : List Nat) : List D → List D → En → Option (List D × En)
  | [], acc, e => some (acc, e)
  | d :: ds, acc, e => (set d e).bind fun e1 => (cond e1).bind fun x => if x.1 = true then (elt x.2).bind fun y => if big (acc.length + 1) = true then none else compL set cond elt vs ds (acc ++ [y.1]) (fgE vs y.2)
    else compL set cond elt vs ds acc (fgE vs x.2)
noncomputable def eLc (it : AX) (set : GX) (cond : BX) (elt : EX) (vs : List Nat) : EX := fun env => (it env).bind fun x => (compL set cond elt vs x.1 [] (fgE vs x.2)).map fun y => (.lst y.1, y.2)
theorem RpL.snoc {mg : Str → Option Value} {K : PySem.W.Frag} {F H : Hp} {c : Ow} {d : D} {v : V} {f2 : List Addr} : ∀ {ds : List D} {vs : List V} {f1 : List Addr}, RpL mg K F H c ds vs f1 → Rp mg K F H c d v f2 → RpL mg K F H c (ds ++ [d]) (vs ++ [v]) (f1 ++ f2)
  | _, _, _, .nil, h => by
    have := RpL.cons h (RpL.nil (mg := mg) (K := K) (F := F) (H := H) (c := c))
    rw [List.append_nil] at this
    exact this
  | _, _, _, .cons h t, h2 => by
    rw [List.cons_append, List.cons_append, List.append_assoc]
    exact .cons h (RpL.snoc t h2)
/-- what a comprehension's turns ask -/
theorem lc_read {set : GX} {cond : BX} {elt : EX} {own : List (Str × Nat)} {fi : AX} {wi : TI} {τb : Tau} {ms : List Nat} {ρ : Ow} {tgt iter : Expr} (hms : ∀ i ∈ ms, i ∈ own.map (·.2)) (hρ : NoBr ρ) (hτb : fgt (own.map (·.2)) τb = τ) (hτ : fgt (own.map (·.2)) τ = τ)
    (qi : ∀ (σ : L2.St) (H F : Hp) (env : En) (fp : Fp) (R : It → Hp → Prop), SO X.mg X.K τ env σ H F fp →
      (∃ ds env', fi env = some (ds, env') ∧ ∀ J H' F' fp', SO X.mg X.K τ env' σ H' F' fp' → Stp H F (UU fp) H' F' (UU fp') → Feeds X.mg X.K F' H' (TauBd τ) J ds → R J H') → wi σ H R)
    {σ : L2.St} {H F : Hp} {env : En} {fp : Fp} {Q : VK} (S : SO X.mg X.K τ env σ H F fp) (hq : ∃ d env', eLc fi set cond elt (own.map (·.2)) env = some (d, env') ∧ ∀ v H' F' fp' fr, SO X.mg X.K τ env' σ H' F' fp' → Rp X.mg X.K F' H' (.ls ρ) d v fr → Frs F' fp' fr → Stp H F (UU fp) H' F' (UF fp' fr) → Q v H') :
    tLc wi (gD X.mg X.K τ set τb ms) (ttD X.mg X.K τb cond) (tD X.mg X.K τb elt ρ) (own.map (·.2)) σ H Q := by
  generalize hvs : own.map (·.2) = vs at *
  obtain ⟨d, env', e, k⟩ := hq
  simp only [eLc, Option.bind_eq_some_iff, Option.map_eq_some_iff] at e
  obtain ⟨⟨ds, env1⟩, e1, ⟨res, envr⟩, e2, e3⟩ := e
  cases e3
  refine qi σ H F env fp _ S ⟨ds, env1, e1, fun J H1 F1 fp1 S1 s1 fd => ?_⟩
  intro D nD
  obtain ⟨fp0, S0, u0⟩ := S1.forgets vs
  rw [hτ] at S0
  have s10 : Stp H F (UU fp) H1 F1 (UU fp0) := s1.sub u0
  have n0 : New H1 F1 (upd H1 D (.lst [])) F1 := new_own S1.fh nD
  refine ⟨fun i m H2 => m = ds.length - i ∧ i ≤ ds.length ∧ ∃ env2 F2 fp2 acc dacc f, SO X.mg X.K τ env2 σ H2 F2 fp2 ∧ Bare vs env2 ∧ Stp H1 F1 (UU fp0) H2 F2 (UU fp2) ∧ H2 D = some (.lst acc) ∧ RpL X.mg X.K F2 H2 ρ dacc acc f ∧ (D :: f).Nodup ∧ (∀ a ∈ D :: f, F2 a = none ∧ ¬ UU fp2 a ∧ (H1 a = none ∨ UU fp0 a)) ∧ compL set cond elt vs (ds.drop i) dacc env2 = some (res, envr),
    ⟨ds.length, by omega, Nat.zero_le _, _, F1, fp0, [], [], [], S0.new n0, fgE_bare, n0.stp, upd_same, .nil, by simp, fun a m => ?_, e2⟩, ?_⟩
  · have : a = D := by simpa using m
    subst this
    exact ⟨Same.free S1.fh nD, fun z => S0.uthere z nD, .inl nD⟩
  rintro i m H2 ⟨rfl, hi, env2, F2, fp2, acc, dacc, f, S2, b2, s2, hD, hacc, hnd, hfr, e3⟩
  have bd : ∀ a, TauBd τ a → ∀ o, H1 a = some o → H2 a = some o := fun a ⟨j, hj⟩ o q => s2.keep a o q (S0.br j a hj).2
  obtain ⟨f1, f2⟩ := fd i H2 F2 s2.ff S2.fh bd
  by_cases hlt : i < ds.length
  · have hd : ds.drop i = ds[i] :: ds.drop (i + 1) := List.drop_eq_getElem_cons hlt
    rw [hd] at e3
    simp only [compL, Option.bind_eq_some_iff] at e3
    obtain ⟨env3, e4, ⟨x, env4⟩, e5, e6⟩ := e3
    obtain ⟨go, yl⟩ := f2 ds[i] (List.getElem?_eq_getElem hlt)
    refine .inr ⟨go, fun H' => ∃ env2 F2 fp2 acc dacc f, SO X.mg X.K τ env2 σ H' F2 fp2 ∧ Bare vs env2 ∧ Stp H1 F1 (UU fp0) H' F2 (UU fp2) ∧ H' D = some (.lst acc) ∧ RpL X.mg X.K F2 H' ρ dacc acc f ∧ (D :: f).Nodup ∧ (∀ a ∈ D :: f, F2 a = none ∧ ¬ UU fp2 a ∧ (H1 a = none ∨ UU fp0 a)) ∧ compL set cond elt vs (ds.drop (i + 1)) dacc env2 = some (res, envr), fun H' q => ⟨ds.length - (i + 1), by omega, rfl, by omega, q⟩, fun x' H' y => ?_⟩
    obtain ⟨F', nw, fx⟩ := yl x' H' y
    have Sw : SO X.mg X.K τ env2 (wipe σ vs) H' F' fp2 := (S2.new nw).swap b2 (wipe_length _ _) fun j hj => wipe_out hj
    -- what is made so far stands
    have stay : ∀ {H4 F4 : Hp} {fp4 : Fp}, Stp H' F' (UU fp2) H4 F4 (UU fp4) → Stp H2 F2 (UU fp2) H4 F4 (UU fp4) → H4 D = some (.lst acc) ∧ RpL X.mg X.K F4 H4 ρ dacc acc f ∧ ∀ a ∈ D :: f, F4 a = none ∧ ¬ UU fp4 a := fun {H4 F4 fp4} _ s => by
      have kp : ∀ a ∈ D :: f, ∀ o, H2 a = some o → H4 a = some o := fun a m o q => s.keep a o q (hfr a m).2.1
      have th : ∀ a ∈ D :: f, H2 a ≠ none := fun a m => by
        rcases List.mem_cons.mp m with rfl | m
        · rw [hD]; simp
        · obtain ⟨us, q⟩ := hacc.there a m; rw [q]; simp
      refine ⟨kp D List.mem_cons_self _ hD, hacc.move s.ff (fun a m o q => kp a (List.mem_cons_of_mem _ m) o q) fun a hb => absurd hb (hρ.no a), fun a m => ⟨?_, fun z => ?_⟩⟩
      · cases q : F4 a with
        | none => rfl
        | some o =>
          rcases s.nw a o q with z | z | z
          · rw [(hfr a m).1] at z; cases z
          · exact absurd z (th a m)
          · exact absurd z (hfr a m).2.1
      · rcases s.un a z with q | q
        · exact (hfr a m).2.1 q
        · exact th a m q
    refine ⟨F', env2, fp2, ds[i], Sw, fx, env3, e4, fun σ3 H3 F3 fp3 S3 s3 o3 => ⟨(o3.wipe hms).trans wipe_wipe, F3, env3, fp3, S3, x, env4, e5, fun H4 F4 fp4 S4 s4 => ?_⟩⟩
    have s14 := s3.trans s4
    have s24 := nw.stp.trans s14
    -- back in the block's own frame
    have home : ∀ {H5 F5 : Hp} {fp5 : Fp} {env5 : En}, SO X.mg X.K τb env5 σ3 H5 F5 fp5 → ∃ fp6, SO X.mg X.K τ (fgE vs env5) σ H5 F5 fp6 ∧ ∀ a, UU fp6 a → UU fp5 a := fun {H5 F5 fp5 env5} S5 => by
      obtain ⟨fp6, S6, u6⟩ := S5.forgets vs
      rw [hτb] at S6
      refine ⟨fp6, S6.swap fgE_bare (by rw [o3.1, wipe_length]) fun j hj => ?_, u6⟩
      rw [o3.2 j fun z => hj (hms j z), wipe_out hj]
    cases x with
    | false =>
      rw [if_neg Bool.false_ne_true] at e6
      refine iteF ?_
      obtain ⟨fp6, S6, u6⟩ := home S4
      obtain ⟨q1, q2, q3⟩ := stay (s14.sub u6) (s24.sub u6)
      exact ⟨_, F4, fp6, acc, dacc, f, S6, fgE_bare, s2.trans (s24.sub u6), q1, q2, hnd, fun a m => ⟨(q3 a m).1, (q3 a m).2, (hfr a m).2.2⟩, e6⟩
    | true =>
      rw [if_pos rfl] at e6
      refine iteT ?_
      simp only [Option.bind_eq_some_iff] at e6
      obtain ⟨⟨yd, env5⟩, e7, e8⟩ := e6
      split at e8
      · cases e8
      rename_i hb
      refine ⟨F4, env4, fp4, S4, yd, env5, e7, fun v H5 F5 fp5 fr5 S5 r5 f5 s5 => ?_⟩
      have s25 := s24.trans (s5.sub fun a h => .inl h)
      obtain ⟨fp6, S6, u6⟩ := home S5
      obtain ⟨q1, q2, q3⟩ := stay ((s14.trans (s5.sub fun a h => .inl h)).sub u6) (s25.sub u6)
      have D5 : ∀ a ∈ D :: f, a ∉ fr5 := fun a m z => by
        obtain ⟨p1, p2, p3⟩ := stay s14 s24
        rcases s5.un a (.inr z) with q | q
        · exact (p3 a m).2 q
        · rcases List.mem_cons.mp m with rfl | m
          · rw [p1] at q; cases q
          · obtain ⟨us, q'⟩ := p2.there a m; rw [q'] at q; cases q
      have nD5 : D ∉ f := (List.nodup_cons.mp hnd).1
      have HD : ∀ b, b ∉ (D :: ([] : List Addr)) → upd H5 D (.lst (acc ++ [v])) b = H5 b := fun b h => upd_ne (by simpa using h)
      refine ⟨acc, q1, by rw [← q2.length]; exact lt_big hb, _, F5, fp6, acc ++ [v], dacc ++ [yd], f ++ fr5, ?_, fgE_bare, ?_, upd_same, ?_, ?_, fun a m => ?_, e8⟩
      · have ne : ∀ a, UU fp6 a → a ≠ D := fun a h z => (q3 D List.mem_cons_self).2 (z ▸ h)
        refine ⟨fun a o q => ?_, S6.len, S6.tl, fun j d q => ?_, S6.non, S6.nd, S6.dj, S6.nf, fun j a hb' => ⟨?_, (S6.br j a hb').2⟩⟩
        · have : a ≠ D := fun z => by rw [z, (q3 D List.mem_cons_self).1] at q; cases q
          rw [upd_ne this]; exact S6.fh a o q
        · obtain ⟨u, eu, ru⟩ := S6.rep j d q
          refine ⟨u, eu, ru.move (Same.refl _) (fun a m o q => ?_) fun a hb' o q => ?_⟩
          · rw [upd_ne (ne a ⟨j, m⟩)]; exact q
          · have : a ≠ D := fun z => by
              subst z
              exact absurd (S1.br j a hb').1 (fun w => w nD)
            rw [upd_ne this]; exact q
        · by_cases z : a = D
          · rw [z, upd_same]; simp
          · rw [upd_ne z]; exact (S6.br j a hb').1
      · have ss := s2.trans (s25.sub u6)
        refine ⟨fun a o q hu => ?_, ss.ff, ss.nw, ss.un⟩
        have : a ≠ D := fun z => by rw [z, nD] at q; cases q
        rw [upd_ne this]; exact ss.keep a o q hu
      · refine (q2.move (Same.refl _) (fun a m o q => ?_) fun a hb' => absurd hb' (hρ.no a)).snoc (r5.move (Same.refl _) (fun a m o q => ?_) fun a hb' => absurd hb' (hρ.no a))
        · rw [upd_ne (show a ≠ D from fun z => by subst z; exact nD5 m)]; exact q
        · rw [upd_ne (show a ≠ D from fun z => by subst z; exact D5 a List.mem_cons_self m)]; exact q
      · rw [← List.cons_append, List.nodup_append]
        exact ⟨hnd, f5.nd, fun a h1 b h2 z => D5 a h1 (z ▸ h2)⟩
      · rw [← List.cons_append, List.mem_append] at m
        rcases m with m | m
        · exact ⟨(q3 a m).1, (q3 a m).2, (hfr a m).2.2⟩
        · refine ⟨f5.nf a m, fun z => f5.dj a m (u6 a z), ?_⟩
          have : Stp H1 F1 (UU fp0) H5 F5 (UF fp5 fr5) := s2.trans (s24.trans s5)
          rcases this.un a (.inr m) with q | q
          · exact .inr q
          · exact .inl q
  · have : i = ds.length := by omega
    subst this
    rw [List.drop_length] at e3
    cases e3
    refine .inl ⟨f1 (Nat.le_refl _), k (.ref D) H2 F2 fp2 (D :: f) S2 (.ls hD hacc) ⟨hnd, fun a m => (hfr a m).1, fun a m => (hfr a m).2.1⟩ ?_⟩
    refine s10.trans ⟨s2.keep, s2.ff, s2.nw, fun a h => ?_⟩
    rcases h with h | h
    · exact s2.un a h
    · exact (hfr a h).2.2.symm
/-- [elt for tgt in iter if ..] -/
theorem de_lc {elt tgt iter : Expr} {ifs : List Expr} {scope : Scope} {own : List (Str × Nat)} {pos : Pos} {fi : AX} {set : GX} {cond : BX} {fe : EX} {τb : Tau} {ms : List Nat} {ρ : Ow} (hc : X.calm = true) (hN : X.N.Nodup) (hi : DI X τ tgt iter fi) (ok : BlkOk X.N X.env.scope scope own)
    (hg : ∀ (s : Shared) (H : Hp) (C : Addr) (cl : List (Str × Addr)) (fp : List Addr), DG (X.blk s H scope (compEnvC scope cl C X.env) fp) τ tgt set τb ms)
    (ht : ∀ (s : Shared) (H : Hp) (C : Addr) (cl : List (Str × Addr)) (fp : List Addr), DTs (X.blk s H scope (compEnvC scope cl C X.env) fp) τb ifs cond)
    (he : ∀ (s : Shared) (H : Hp) (C : Addr) (cl : List (Str × Addr)) (fp : List Addr), DE (X.blk s H scope (compEnvC scope cl C X.env) fp) τb elt fe ρ)
    (hms : ∀ i ∈ ms, i ∈ own.map (·.2) := by decide) (hρ : NoBr ρ := by repeat constructor) (hτb : fgt (own.map (·.2)) τb = τ := by rfl) (hτ : fgt (own.map (·.2)) τ = τ := by rfl) (hs : ∀ x, foldedSetIterable iter X.env x = pure x := by intro _; rfl) :
    DE X τ (.ListComp elt [⟨tgt, iter, ifs, 0⟩] scope pos) (eLc fi set cond fe (own.map (·.2))) (.ls ρ) := by
  obtain ⟨wi, pi, qi⟩ := hi.go
  exact ⟨_, pe_lc (g := gD X.mg X.K τ set τb ms) (tt := ttD X.mg X.K τb cond) (te := tD X.mg X.K τb fe ρ) hc hN pi ok (fun s H C cl fp => (hg s H C cl fp).pg) (fun s H C cl fp => (ht s H C cl fp).pts) (fun s H C cl fp => (he s H C cl fp).pe) hs, fun σ H F env fp Q S hq => lc_read (tgt := tgt) (iter := iter) hms hρ hτb hτ qi S hq⟩
/-- x = [..] on one line -/
theorem ds_setLc (i : Nat) {y : Str} {py : Pos} {elt tgt iter : Expr} {ifs : List Expr} {scope : Scope} {own : List (Str × Nat)} {pos spos : Pos} {fi : AX} {set : GX} {cond : BX} {fe : EX} {τb : Tau} {ms : List Nat} {ρ : Ow} {b c r : Tau} {w : Ow} (hc : X.calm = true) (hN : X.N.Nodup) (hi : DI X τ tgt iter fi) (ok : BlkOk X.N X.env.scope scope own)
    (hg : ∀ (s : Shared) (H : Hp) (C : Addr) (cl : List (Str × Addr)) (fp : List Addr), DG (X.blk s H scope (compEnvC scope cl C X.env) fp) τ tgt set τb ms)
    (ht : ∀ (s : Shared) (H : Hp) (C : Addr) (cl : List (Str × Addr)) (fp : List Addr), DTs (X.blk s H scope (compEnvC scope cl C X.env) fp) τb ifs cond)
    (he : ∀ (s : Shared) (H : Hp) (C : Addr) (cl : List (Str × Addr)) (fp : List Addr), DE (X.blk s H scope (compEnvC scope cl C X.env) fp) τb elt fe ρ)
    (hsw : swapsWith (.ListComp elt [⟨tgt, iter, ifs, 0⟩] scope pos) (some (.Name y py)) spos.line X.env = pure true) (hy : X.N[i]? = some y := by rfl) (hyl : X.env.scope.names.lookup y = some .local := by rfl) (hl : i < τ.length := by exact Nat.le_of_ble_eq_true rfl)
    (hms : ∀ i ∈ ms, i ∈ own.map (·.2) := by decide) (hρ : NoBr ρ := by repeat constructor) (hτb : fgt (own.map (·.2)) τb = τ := by rfl) (hτ : fgt (own.map (·.2)) τ = τ := by rfl) (hs : ∀ x, foldedSetIterable iter X.env x = pure x := by intro _; rfl) :
    DS X τ (.Assign [.Name y py] (.ListComp elt [⟨tgt, iter, ifs, 0⟩] scope pos) spos) (sSet i (eLc fi set cond fe (own.map (·.2)))) ⟨τ.set i (.ls ρ), b, c, r, w⟩ := by
  obtain ⟨wi, pi, qi⟩ := hi.go
  refine ⟨_, ps_setLc (g := gD X.mg X.K τ set τb ms) (tt := ttD X.mg X.K τb cond) (te := tD X.mg X.K τb fe ρ) hc hN hy hyl hsw pi ok (fun s H C cl fp => (hg s H C cl fp).pg) (fun s H C cl fp => (ht s H C cl fp).pts) (fun s H C cl fp => (he s H C cl fp).pe) hs, fun D σ H F env fp S ⟨r, e, k⟩ => ?_⟩
  simp only [sSet, Option.map_eq_some_iff] at e
  obtain ⟨⟨d, env1⟩, e1, rfl⟩ := e
  refine lc_read (tgt := tgt) (iter := iter) hms hρ hτb hτ qi S ⟨d, env1, e1, fun v H' F' fp' fr S' rv f' s => ?_⟩
  obtain ⟨S2, hU⟩ := S'.store rv f' (NoBr.ls hρ).no hl (brs_out S s)
  exact k (σ.set i (some v)) H' F' _ S2 (s.sub hU)
/-! ### locks: a list is lent to a loop -/
theorem SO.lock {mg : Str → Option Value} {K : PySem.W.Frag} {env : En} {σ : L2.St} {H F : Hp} {fp : Fp} {i : Nat} {d : D} (S : SO mg K τ env σ H F fp) (o : OwL (tg τ i)) (e : env[i]? = some (some d)) (hl : i < τ.length) :
    ∃ a vs, H a = some (.lst vs) ∧ SO mg K (τ.set i (.br a)) env σ H F (fpSet fp i []) ∧ ¬ UU (fpSet fp i []) a ∧ F a = none ∧ UU fp a ∧
      ∀ (τ' : Tau) (env' : En) (σ' : L2.St) (H' F' : Hp) (fp' : Fp), (∀ (j : Nat) (b : Addr), j ≠ i → (tg τ' j).Brs b → TauBd τ b) → SO mg K (τ'.set i (.br a)) env' σ' H' F' fp' → Stp H F (UU (fpSet fp i [])) H' F' (UU fp') → ∃ fp2, SO mg K (τ'.set i (tg τ i)) env' σ' H' F' fp2 ∧ Stp H F (UU fp) H' F' (UU fp2) ∧ ∀ x, UU fp2 x → UU fp' x ∨ x = a := by
  obtain ⟨v, ev, r⟩ := S.rep i d e
  obtain ⟨a, vs, ds, rfl, rfl, ha, hs, hf, k⟩ := r.own o
  have ma : a ∈ fp i := by rw [hf]; exact List.mem_singleton_self a
  have nu : ¬ UU (fpSet fp i []) a := fun ⟨j, m⟩ => by
    by_cases hj : j = i
    · subst hj; rw [fpSet_same] at m; simp at m
    · rw [fpSet_ne hj] at m; exact hj (S.dj j i a m ma)
  refine ⟨a, vs, ha, ⟨S.fh, S.len, by rw [List.length_set]; exact S.tl, fun j d2 e2 => ?_, fun j e2 => ?_, fun j => ?_, fun j k a m1 m2 => ?_, fun j a m => ?_, fun j b hb => ?_⟩, nu, S.nf i a ma, ⟨i, ma⟩, fun τ' env' σ' H' F' fp' hB S' s => ?_⟩
  · by_cases hj : j = i
    · subst hj
      rw [e] at e2
      cases e2
      rw [tg_set hl, fpSet_same]
      exact ⟨_, ev, .br (.inl ha) hs⟩
    · obtain ⟨u, e1, r1⟩ := S.rep j d2 e2
      rw [tg_ne hj, fpSet_ne hj]
      exact ⟨u, e1, r1⟩
  · by_cases hj : j = i
    · subst hj; exact fpSet_same
    · rw [fpSet_ne hj]; exact S.non j e2
  · by_cases hj : j = i
    · subst hj; rw [fpSet_same]; exact List.nodup_nil
    · rw [fpSet_ne hj]; exact S.nd j
  · by_cases hj : j = i
    · subst hj; rw [fpSet_same] at m1; simp at m1
    · by_cases hk : k = i
      · subst hk; rw [fpSet_same] at m2; simp at m2
      · rw [fpSet_ne hj] at m1; rw [fpSet_ne hk] at m2
        exact S.dj j k a m1 m2
  · by_cases hj : j = i
    · subst hj; rw [fpSet_same] at m; simp at m
    · rw [fpSet_ne hj] at m; exact S.nf j a m
  · by_cases hj : j = i
    · subst hj
      rw [tg_set hl] at hb
      have hb : a = b := hb
      subst hb
      exact ⟨by rw [ha]; simp, nu⟩
    · rw [tg_ne hj] at hb
      exact ⟨(S.br j b hb).1, fun z => (S.br j b hb).2 (uu_fpSet z)⟩
  · have H'a : H' a = some (.lst vs) := s.keep a _ ha nu
    have F'a : F' a = none := by
      cases q : F' a with
      | none => rfl
      | some o =>
        rcases s.nw a o q with z | z | z
        · rw [S.nf i a ma] at z; cases z
        · rw [ha] at z; cases z
        · exact absurd z nu
    have nu' : ¬ UU fp' a := fun z => by
      rcases s.un a z with q | q
      · exact nu q
      · rw [ha] at q; cases q
    by_cases hset : ∃ d', env'[i]? = some (some d')
    · obtain ⟨d', hd'⟩ := hset
      have hl' : i < τ'.length := by
        have h1 := S'.tl
        have h2 := S'.len
        rw [List.length_set] at h1
        by_cases h : i < env'.length
        · omega
        · rw [List.getElem?_eq_none (by omega)] at hd'; cases hd'
      obtain ⟨v', ev', r'⟩ := S'.rep i d' hd'
      rw [tg_set hl'] at r'
      obtain ⟨vs', ds', rfl, rfl, hr, hs', hf'⟩ := r'.br_inv
      have hvs : vs' = vs := by
        rcases hr with z | ⟨o, z⟩
        · rw [H'a] at z; cases z; rfl
        · rw [H'a] at z; cases z
      subst hvs
      refine ⟨fpSet fp' i [a], ⟨S'.fh, S'.len, by have := S'.tl; rw [List.length_set] at this ⊢; exact this, fun j d2 e2 => ?_, fun j e2 => ?_, fun j => ?_, fun j k2 b m1 m2 => ?_, fun j b m => ?_, fun j b hb => ?_⟩, ⟨fun b o q hu => s.keep b o q fun z => hu (uu_fpSet z), s.ff, fun b o q => (s.nw b o q).elim .inl fun z => .inr (z.elim .inl fun w => .inr (uu_fpSet w)), fun b ⟨j, m⟩ => ?_⟩, fun x ⟨j, m⟩ => ?_⟩
      · by_cases hj : j = i
        · subst hj
          rw [hd'] at e2; cases e2
          rw [tg_set hl', fpSet_same]
          exact ⟨_, ev', k F' H' ds' vs' H'a hs'⟩
        · obtain ⟨u, e1, r1⟩ := S'.rep j d2 e2
          rw [tg_ne hj] at r1
          rw [tg_ne hj, fpSet_ne hj]
          exact ⟨u, e1, r1⟩
      · by_cases hj : j = i
        · subst hj; rw [hd'] at e2; cases e2
        · rw [fpSet_ne hj]; exact S'.non j e2
      · by_cases hj : j = i
        · subst hj; rw [fpSet_same]; simp
        · rw [fpSet_ne hj]; exact S'.nd j
      · by_cases hj : j = i
        · by_cases hk : k2 = i
          · rw [hj, hk]
          · subst hj
            rw [fpSet_same] at m1; rw [fpSet_ne hk] at m2
            have : b = a := by simpa using m1
            subst this
            exact absurd ⟨k2, m2⟩ nu'
        · by_cases hk : k2 = i
          · subst hk
            rw [fpSet_same] at m2; rw [fpSet_ne hj] at m1
            have : b = a := by simpa using m2
            subst this
            exact absurd ⟨j, m1⟩ nu'
          · rw [fpSet_ne hj] at m1; rw [fpSet_ne hk] at m2
            exact S'.dj j k2 b m1 m2
      · by_cases hj : j = i
        · subst hj
          rw [fpSet_same] at m
          have : b = a := by simpa using m
          subst this; exact F'a
        · rw [fpSet_ne hj] at m; exact S'.nf j b m
      · by_cases hj : j = i
        · subst hj
          rw [tg_set hl'] at hb
          exact absurd hb (o.noBr b)
        · rw [tg_ne hj] at hb
          obtain ⟨b1, b2⟩ := S'.br j b (by rw [tg_ne hj]; exact hb)
          refine ⟨b1, fun ⟨j2, m2⟩ => ?_⟩
          by_cases hj2 : j2 = i
          · subst hj2
            rw [fpSet_same] at m2
            have : b = a := by simpa using m2
            subst this
            obtain ⟨j3, h3⟩ := hB j b hj hb
            exact (S.br j3 b h3).2 ⟨j2, ma⟩
          · rw [fpSet_ne hj2] at m2; exact b2 ⟨j2, m2⟩
      · by_cases hj : j = i
        · subst hj
          rw [fpSet_same] at m
          have : b = a := by simpa using m
          subst this
          exact .inl ⟨j, ma⟩
        · rw [fpSet_ne hj] at m
          rcases s.un b ⟨j, m⟩ with z | z
          · exact .inl (uu_fpSet z)
          · exact .inr z
      · by_cases hj : j = i
        · subst hj
          rw [fpSet_same] at m
          exact .inr (by simpa using m)
        · rw [fpSet_ne hj] at m
          exact .inl ⟨j, m⟩
    · refine ⟨fp', ⟨S'.fh, S'.len, by have := S'.tl; rw [List.length_set] at this ⊢; exact this, fun j d2 e2 => ?_, S'.non, S'.nd, S'.dj, S'.nf, fun j b hb => ?_⟩, ⟨fun b o q hu => s.keep b o q fun z => hu (uu_fpSet z), s.ff, fun b o q => (s.nw b o q).elim .inl fun z => .inr (z.elim .inl fun w => .inr (uu_fpSet w)), fun b m => (s.un b m).elim (fun z => .inl (uu_fpSet z)) .inr⟩, fun x m => .inl m⟩
      · by_cases hj : j = i
        · subst hj; exact absurd ⟨d2, e2⟩ hset
        · obtain ⟨u, e1, r1⟩ := S'.rep j d2 e2
          rw [tg_ne hj] at r1
          rw [tg_ne hj]
          exact ⟨u, e1, r1⟩
      · by_cases hj : j = i
        · subst hj
          by_cases hl' : j < τ'.length
          · rw [tg_set hl'] at hb
            exact absurd hb (o.noBr b)
          · have : tg (τ'.set j (tg τ j)) j = .fz := by unfold tg; rw [List.getElem?_eq_none (by simpa using hl')]; rfl
            rw [this] at hb; exact hb.elim
        · rw [tg_ne hj] at hb
          exact S'.br j b (by rw [tg_ne hj]; exact hb)
/-- the borrows of n are borrows of τ -/
noncomputable def SubB (n τ : Tau) : Prop := ∀ w ∈ n, ∀ b, w.Brs b → ∃ u ∈ τ, u.Brs b
theorem SubB.ok {n τ : Tau} (h : SubB n τ) {j : Nat} {b : Addr} (hb : (tg n j).Brs b) : TauBd τ b := by
  unfold tg at hb
  cases q : n[j]? with
  | none => rw [q] at hb; exact hb.elim
  | some w =>
    rw [q] at hb
    obtain ⟨u, hu, hb'⟩ := h w (List.mem_of_getElem? q) b hb
    obtain ⟨j', e⟩ := List.mem_iff_getElem?.mp hu
    exact ⟨j', by unfold tg; rw [e]; exact hb'⟩
noncomputable def sLk (i : Nat) (f : SX) : SX := fun env => match (env[i]?).join with | some (.lst _) => f env | _ => none
noncomputable def eLk (i : Nat) (f : EX) : EX := fun env => match (env[i]?).join with | some (.lst _) => f env | _ => none
theorem ds_lock (i : Nat) {st : Stmt} {f : SX} {n b c r : Tau} {w : Ow} (h : ∀ a, DS X (τ.set i (.br a)) st f ⟨n.set i (.br a), b.set i (.br a), c.set i (.br a), r.set i (.br a), w⟩) (ho : OwL (tg τ i) := by repeat constructor) (hl : i < τ.length := by exact Nat.le_of_ble_eq_true rfl)
    (hn : SubB n τ := by simp [SubB, Ow.Brs]) (hb : SubB b τ := by simp [SubB, Ow.Brs]) (hc : SubB c τ := by simp [SubB, Ow.Brs]) (hr : SubB r τ := by simp [SubB, Ow.Brs]) :
    DS X τ st (sLk i f) ⟨n.set i (tg τ i), b.set i (tg τ i), c.set i (tg τ i), r.set i (tg τ i), w⟩ := by
  refine ⟨fun D σ H => ∃ a, (h a).go.choose D σ H, ?_, ?_⟩
  · exact ⟨fun pins s σ H D I ⟨a, q⟩ => (h a).go.choose_spec.1.run pins s σ H D I q⟩
  · intro D σ H F env fp S ⟨res, e, k⟩
    unfold sLk at e
    split at e
    · rename_i ds h0
      obtain ⟨a, vs, ha, S', nu, fa, ua, back⟩ := S.lock ho (en_get h0) hl
      refine ⟨a, (h a).go.choose_spec.2 D σ H F env _ S' ⟨res, e, ?_⟩⟩
      cases res with
      | nx e' =>
        intro σ' H' F' fp' S2 s
        obtain ⟨fp2, S3, s3, _⟩ := back n _ _ _ _ _ (fun j b' hj hb' => hn.ok hb') S2 s
        exact k σ' H' F' fp2 S3 s3
      | bk e' =>
        intro σ' H' F' fp' S2 s
        obtain ⟨fp2, S3, s3, _⟩ := back b _ _ _ _ _ (fun j b' hj hb' => hb.ok hb') S2 s
        exact k σ' H' F' fp2 S3 s3
      | ct e' =>
        intro σ' H' F' fp' S2 s
        obtain ⟨fp2, S3, s3, _⟩ := back c _ _ _ _ _ (fun j b' hj hb' => hc.ok hb') S2 s
        exact k σ' H' F' fp2 S3 s3
      | rt d e' =>
        intro v σ' H' F' fp' fr S2 rv f' s
        obtain ⟨fp2, S3, s3, h3⟩ := back r _ _ _ _ _ (fun j b' hj hb' => hr.ok hb') S2 (s.sub fun x h => .inl h)
        refine k v σ' H' F' fp2 fr S3 rv ⟨f'.nd, f'.nf, fun x m z => ?_⟩ ⟨s3.keep, s3.ff, s3.nw, fun x h => ?_⟩
        · rcases h3 x z with q | q
          · exact f'.dj x m q
          · subst q
            rcases s.un x (.inr m) with w1 | w1
            · exact nu w1
            · rw [ha] at w1; cases w1
        · rcases h with h | h
          · exact s3.un x h
          · exact (s.un x (.inr h)).elim (fun z => .inl (uu_fpSet z)) .inr
    · cases e
/-- the same for an expression -/
theorem de_lock (i : Nat) {e : Expr} {f : EX} {ρ : Ow} (h : ∀ a, DE X (τ.set i (.br a)) e f ρ) (ho : OwL (tg τ i) := by repeat constructor) (hl : i < τ.length := by exact Nat.le_of_ble_eq_true rfl) (hn : SubB τ τ := by simp [SubB, Ow.Brs]) :
    DE X τ e (eLk i f) ρ := by
  refine ⟨fun σ H Q => ∃ a, (h a).go.choose σ H Q, ?_, ?_⟩
  · exact ⟨fun pins s σ H Q I ⟨a, q⟩ => (h a).go.choose_spec.1.run pins s σ H Q I q⟩
  · intro σ H F env fp Q S ⟨d, env', e, k⟩
    unfold eLk at e
    split at e
    · rename_i ds h0
      obtain ⟨a, vs, ha, S', nu, fa, ua, back⟩ := S.lock ho (en_get h0) hl
      refine ⟨a, (h a).go.choose_spec.2 σ H F env _ Q S' ⟨d, env', e, ?_⟩⟩
      intro v H' F' fp' fr S2 rv f' s
      obtain ⟨fp2, S3, s3, h3⟩ := back τ _ _ _ _ _ (fun j b' hj hb' => hn.ok hb') S2 (s.sub fun x h => .inl h)
      have e0 : τ.set i (tg τ i) = τ := by
        refine List.ext_getElem? fun j => ?_
        by_cases hj : i = j
        · subst hj
          rw [List.getElem?_set_self hl]
          unfold tg
          rw [List.getElem?_eq_getElem hl]; rfl
        · rw [List.getElem?_set_ne hj]
      rw [e0] at S3
      refine k v H' F' fp2 fr S3 rv ⟨f'.nd, f'.nf, fun x m z => ?_⟩ ⟨s3.keep, s3.ff, s3.nw, fun x h => ?_⟩
      · rcases h3 x z with q | q
        · exact f'.dj x m q
        · subst q
          rcases s.un x (.inr m) with w1 | w1
          · exact nu w1
          · rw [ha] at w1; cases w1
      · rcases h with h | h
        · exact s3.un x h
        · exact (s.un x (.inr h)).elim (fun z => .inl (uu_fpSet z)) .inr
    · cases e
end
end DL
namespace DL
open PySem PySem.Spec PyProof.Rows L2
section
variable {X : Cx} {τ τ1 : Tau}
/-! ### isinstance of built-in types -/
noncomputable def tyD : D → Option String
  | .non => some "NoneType"
  | .bl _ => some "bool"
  | .int _ => some "int"
  | .str _ => some "str"
  | .lst _ => some "list"
  | .tup _ => some "tuple"
  | .dic _ => some "dict"
  | .dit _ => some "dict"
  | .ins _ _ => none
  | .raw _ => none
noncomputable def gIsi (T : String) (d : D) : Option D := (tyD d).bind fun t => (kitB t T).map .bl
theorem ty_fz {F H : Hp} {d : D} {v : V} {t : String} (s : Same F H) (h : Fz X.mg X.K F d v) (e : tyD d = some t) : TyX X.K H v (.type t) := by
  cases h with
  | non => cases e; exact .base .non
  | bl b => cases e; exact .base (.bl b)
  | int i => cases e; exact .base (.int i)
  | str x => cases e; exact .base (.str x)
  | lst h hs => cases e; exact .base (.lst (s _ _ h))
  | tup h hs =>
    cases e
    rcases h.toT with (h | ⟨o, h⟩) | ⟨o, its, n, h1, h2, h3⟩
    · exact .base (.tup (s _ _ h))
    · exact .fTuple (s _ _ h)
    · exact .kTuple h1 h2
  | dic h hs => cases e; exact .base (.dK (s _ _ h))
  | dit h hs => cases e; exact .base (.dT (s _ _ h))
  | ins h h2 h3 hs => cases e
  | raw h hs => cases e
theorem de_isi {T : String} {a : Expr} {f : EX} {x : Str} {p p2 pos : Pos} (ha : DE X τ a f .fz) (hm : X.mg "isinstance" = none) (hmT : X.mg x = none) (hv : bootBuiltins x = some (.type T)) (hgl : Gl X "isinstance" := by rfl) (hgT : Gl X x := by rfl) (hn : x ≠ "__name__" := by decide) (hd : (x == ("__debug__" : Str)) = false := by decide)
    (hs : starEach (a :: [.Name x p2]) X.env = (false, eval a X.env) :: starEach [.Name x p2] X.env := by rfl) (hs2 : starEach [.Name x p2] X.env = (false, eval (.Name x p2) X.env) :: starEach [] X.env := by rfl) (hpl : (backTo pos (starEach [.Name x p2] X.env)).any (·.1) = false := by rfl) :
    DE X τ (.Call (.Name "isinstance" p) [a, .Name x p2] [] pos) (eU (gIsi T) f) .fz := by
  obtain ⟨ta, pa, qa⟩ := ha.go
  refine ⟨_, pe_callB call_isi hgl hm (by decide +kernel) (pa_cons pa (pa_cons (pe_bltn (v := .ty T) hgT hmT hv rfl hn hd) pa_nil hs2) hs) (by decide) (by decide) hs hpl, fun σ H F env fp Q S ⟨d, env', e, q⟩ => ?_⟩
  simp only [eU, gIsi, Option.bind_eq_some_iff, Option.map_eq_some_iff] at e
  obtain ⟨⟨y, env1⟩, e1, d', ⟨t, e2, b, e3, rfl⟩, e4⟩ := e
  cases e4
  refine qa σ H F env fp _ S ⟨y, env1, e1, fun v H1 F1 fp1 fr1 S1 r1 f1 s1 => ?_⟩
  obtain ⟨z1, rfl⟩ := r1.fz_inv
  exact ⟨v, .ty T, .type t, .type T, b, rfl, .ty T, ty_fz S1.fh z1 e2, kit_ty e3, q _ H1 F1 fp1 [] S1 (.fz (.bl b)) .nil s1⟩
/-! ### slices -/
noncomputable def cutD (xs : List D) (lo hi : Option Int) : List D := (xs.drop (HT.sIx xs.length 0 lo)).take (HT.sIx xs.length xs.length hi - HT.sIx xs.length 0 lo)
theorem FzL.cut {mg : Str → Option Value} {K : PySem.W.Frag} {F : Hp} {ds : List D} {vs : List V} (h : FzL mg K F ds vs) (lo hi : Option Int) : FzL mg K F (cutD ds lo hi) (cutV vs lo hi) := by
  unfold cutD cutV
  rw [h.length]
  exact (h.drop _).take _
structure DO (X : Cx) (τ : Tau) (e : Option Expr) (f : En → Option (Option Int × En)) : Prop where
  go : ∃ t, PO X e t ∧ ∀ (σ : L2.St) (H F : Hp) (env : En) (fp : Fp) (Q : Option Int → Hp → Prop), SO X.mg X.K τ env σ H F fp →
    (∃ o env', f env = some (o, env') ∧ ∀ H' F' fp', SO X.mg X.K τ env' σ H' F' fp' → Stp H F (UU fp) H' F' (UU fp') → Q o H') → t σ H Q
theorem do_none : DO X τ none (fun env => some (none, env)) := ⟨_, po_none, fun σ H F env fp Q S ⟨o, env', e, q⟩ => by
  cases e
  exact q H F fp S Stp.refl⟩
noncomputable def oI (f : EX) : En → Option (Option Int × En) := fun env => (f env).bind fun x => match x.1 with | .int i => some (some i, x.2) | _ => none
theorem do_some {e : Expr} {f : EX} (h : DE X τ e f .fz) : DO X τ (some e) (oI f) := by
  obtain ⟨t, p, q⟩ := h.go
  refine ⟨_, po_some p, fun σ H F env fp Q S ⟨o, env', e, k⟩ => ?_⟩
  simp only [oI, Option.bind_eq_some_iff] at e
  obtain ⟨⟨d, env1⟩, e1, e⟩ := e
  refine q σ H F env fp _ S ⟨d, env1, e1, fun v H' F' fp' fr S' rv f' s => ?_⟩
  obtain ⟨z, rfl⟩ := rv.fz_inv
  cases d with
  | int i => cases e; cases z; exact ⟨i, rfl, k H' F' fp' S' s.nofr⟩
  | _ => cases e
noncomputable def gSl (x : D) (lo hi : Option Int) : Option D := match x with
  | .lst xs => some (.lst (cutD xs lo hi))
  | .tup xs => some (.tup (cutD xs lo hi))
  | .str z => if big z.length = true then none else some (.str (cutS z lo hi))
  | _ => none
noncomputable def eSl (f : EX) (fl fh : En → Option (Option Int × En)) : EX := fun env => (f env).bind fun x => (fl x.2).bind fun l => (fh l.2).bind fun h => (gSl x.1 l.1 h.1).map fun d => (d, h.2)
noncomputable def rSl3 (K : PySem.W.Frag) : V → Option Int → Option Int → Hp → VK → Prop := fun x lo hi H Q => rSlL K x lo hi H Q ∨ rSlF K x lo hi H Q ∨ rSlS x lo hi H Q
theorem cutD_whole {xs : List D} {lo hi : Option Int} (h1 : HT.sIx xs.length 0 lo = 0) (h2 : HT.sIx xs.length xs.length hi = xs.length) : cutD xs lo hi = xs := by
  unfold cutD; rw [h1, h2]; simp
theorem sl_fz {H F : Hp} {x d : D} {v : V} {lo hi : Option Int} {Q : VK} (s : Same F H) (hx : Fz X.mg X.K F x v) (e : gSl x lo hi = some d) (q : Ans X .fz H F d Q) : rSl3 X.K v lo hi H Q := by
  cases x with
  | lst xs =>
    cases e
    cases hx with
    | lst hz hs => exact .inl ⟨_, _, rfl, SqL.of (s _ _ hz), fun p np => ans_lst q s (hs.cut _ _) np⟩
  | tup xs =>
    cases e
    cases hx with
    | tup hz hs =>
      refine .inr (.inl ⟨_, _, rfl, (Same.seqD s hz).toT, fun hw => ?_, fun _ p o np ho => ans_tup q s (hs.cut _ _) np ho⟩)
      rw [← hs.length] at hw
      rw [cutD_whole hw.1 hw.2] at q
      exact ans_here q s (.tup hz hs)
  | str z =>
    simp only [gSl] at e
    split at e
    · cases e
    · rename_i hb
      cases e
      cases hx
      exact .inr (.inr ⟨_, rfl, nbig hb, ans_here q s (.str _)⟩)
  | _ => cases e
/-- x[lo:hi] of a frozen thing -/
theorem de_slice {e : Expr} {lo hi : Option Expr} {f : EX} {fl fh : En → Option (Option Int × En)} {p2 pos : Pos} (he : DE X τ e f .fz) (hl : DO X τ lo fl) (hh : DO X τ hi fh) : DE X τ (.Subscript e (.Slice lo hi none p2) pos) (eSl f fl fh) .fz := by
  obtain ⟨te, pe, qe⟩ := he.go
  obtain ⟨tl, pl, ql⟩ := hl.go
  obtain ⟨th, ph, qh⟩ := hh.go
  refine ⟨_, pe_slice (r := rSl3 X.K) (sl_list.or (sl_tupF.or sl_str)) pe pl ph, fun σ H F env fp Q S ⟨d, env', e, q⟩ => ?_⟩
  simp only [eSl, Option.bind_eq_some_iff, Option.map_eq_some_iff] at e
  obtain ⟨⟨x, env1⟩, e1, ⟨l, env2⟩, e2, ⟨h, env3⟩, e3, d', e4, e5⟩ := e
  cases e5
  refine qe σ H F env fp _ S ⟨x, env1, e1, fun v H1 F1 fp1 fr1 S1 r1 f1 s1 => ?_⟩
  obtain ⟨z1, rfl⟩ := r1.fz_inv
  refine ql σ H1 F1 env1 fp1 _ S1 ⟨l, env2, e2, fun H2 F2 fp2 S2 s2 => ?_⟩
  refine qh σ H2 F2 env2 fp2 _ S2 ⟨h, env3, e3, fun H3 F3 fp3 S3 s3 => ?_⟩
  refine sl_fz S3.fh ((z1.mono s2.ff).mono s3.ff) e4 fun v H' F' fr n rv nd hf => ?_
  obtain ⟨A, B, C⟩ := fin_new S3 ((s1.nofr.trans s2).trans s3) n nd hf
  exact q v H' F' fp3 fr A rv B C
/-- x[::-1] of a readable list -/
noncomputable def gRev : D → Option D
  | .lst xs => some (.lst xs.reverse)
  | _ => none
theorem de_rev {e : Expr} {f : EX} {k : Nat} {p1 p2 p3 pos : Pos} (he : DR X τ e f) : DE X τ (.Subscript e (.Slice none none (some (.UnaryOp .USub (.Constant (.int 1) k p1) p2)) p3) pos) (eU gRev f) .fz := by
  obtain ⟨te, pe, qe⟩ := he.go
  refine ⟨_, pe_revL pe, fun σ H F env fp Q S ⟨d, env', e, q⟩ => ?_⟩
  simp only [eU, Option.bind_eq_some_iff, Option.map_eq_some_iff] at e
  obtain ⟨⟨y, env1⟩, e1, d', e2, e4⟩ := e
  cases e4
  refine qe σ H F env fp _ S ⟨y, env1, e1, fun v H1 F1 fp1 S1 r1 s1 => ?_⟩
  cases y with
  | lst ys =>
    cases e2
    obtain ⟨a, vs, rfl, h, hs⟩ := rd_lst S1.fh r1
    refine ⟨a, vs, rfl, h, fun p np => ans_lst (X := X) (F := F1) (fun v H' F' fr n rv nd hf => ?_) S1.fh hs.reverse np⟩
    obtain ⟨A, B, C⟩ := fin_new S1 s1 n nd hf
    exact q v H' F' fp1 fr A rv B C
  | _ => cases e2
/-! ### x[i], x one's own or borrowed list -/
noncomputable def eIxO (i : Nat) (f : EX) : EX := fun env => match (env[i]?).join with
  | some (.lst _) => (f env).bind fun k => match (k.2[i]?).join, k.1 with
    | some (.lst ds), .int j => (atI ds j).map fun d => (d, k.2)
    | _, _ => none
  | _ => none
theorem de_ixo (i : Nat) {x : Str} {b : Expr} {f : EX} {p pos : Pos} (hb : DE X τ b f .fz) (o : RdO (tg τ i)) (hp : PlainIx b := by intro _ _; rfl) (hN : X.N[i]? = some x := by rfl) (hv : Vis X.env.scope x := by first | exact Or.inl rfl | exact Or.inr (Or.inl rfl) | exact Or.inr (Or.inr rfl)) (hd : (x == ("__debug__" : Str)) = false := by decide)
    (hcd : (x == ("__classdict__" : Str)) = false := by decide) : DE X τ (.Subscript (.Name x p) b pos) (eIxO i f) .fz := by
  obtain ⟨tb, pb, qb⟩ := hb.go
  refine ⟨_, pe_ix ix_list (pe_var hN hv hd hcd) pb hp, fun σ H F env fp Q S ⟨d, env', e, q⟩ => ?_⟩
  unfold eIxO at e
  split at e
  · rename_i ds0 h0
    simp only [Option.bind_eq_some_iff] at e
    obtain ⟨⟨k, env1⟩, e1, e⟩ := e
    obtain ⟨v0, ev0, r0⟩ := S.rep i _ (en_get h0)
    refine ⟨v0, ev0, qb σ H F env fp _ S ⟨k, env1, e1, fun vk H1 F1 fp1 fr1 S1 r1 f1 s1 => ?_⟩⟩
    obtain ⟨z1, rfl⟩ := r1.fz_inv
    split at e
    · rename_i ds j h1 h2
      have h2 : k = .int j := h2
      subst h2
      cases z1
      simp only [Option.map_eq_some_iff] at e
      obtain ⟨d', e2, e3⟩ := e
      cases e3
      obtain ⟨v1, ev1, r1⟩ := S1.rep i _ (en_get h1)
      rw [ev0] at ev1; cases ev1
      obtain ⟨a, vs, ds1, q1, rfl, q3, q4⟩ := r1.rd o
      cases q1
      obtain ⟨u, e4, r4⟩ := atI_fz q4 e2
      exact ⟨a, vs, j, u, rfl, rfl, q3, e4, q u H1 F1 fp1 [] S1 (.fz r4) .nil s1⟩
    · cases e
  · cases e
/-! ### in -/
noncomputable def flatD : D → Bool
  | .non => true
  | .bl _ => true
  | .int _ => true
  | .str _ => true
  | _ => false
noncomputable def eqF (x y : D) : Bool := match py x, py y with
  | some a, some b => PyData.eqv a b
  | _, _ => false
theorem flat_fz {F : Hp} {d : D} {v : V} (h : Fz X.mg X.K F d v) (e : flatD d = true) : flatV v = true := by
  cases h <;> first | rfl | cases e
theorem eqF_fz {F : Hp} {x y : D} {vx vy : V} (hx : Fz X.mg X.K F x vx) (hy : Fz X.mg X.K F y vy) (ex : flatD x = true) (ey : flatD y = true) : eqV vx vy = eqF x y := by
  cases hx <;> cases hy <;> first
    | (cases ex; done) | (cases ey; done)
    | rfl
    | simp [eqV, eqF, py, PyData.eqv]
theorem flats_fz {F : Hp} : ∀ {ds : List D} {vs : List V}, FzL X.mg X.K F ds vs → ds.all flatD = true → vs.all flatV = true
  | _, _, .nil, _ => rfl
  | _, _, .cons h hs, e => by
    simp only [List.all_cons, Bool.and_eq_true] at e ⊢
    exact ⟨flat_fz h e.1, flats_fz hs e.2⟩
theorem inV_fz {F : Hp} {x : D} {vx : V} (hx : Fz X.mg X.K F x vx) (ex : flatD x = true) : ∀ {ds : List D} {vs : List V}, FzL X.mg X.K F ds vs → ds.all flatD = true → inV vx vs = ds.any fun y => eqF y x
  | _, _, .nil, _ => rfl
  | _, _, .cons h hs, e => by
    simp only [List.all_cons, Bool.and_eq_true] at e
    unfold inV
    rw [List.any_cons, List.any_cons, eqF_fz h hx e.1 ex]
    exact congrArg _ (inV_fz hx ex hs e.2)
noncomputable def gIn (neg : Bool) (x y : D) : Option D := match y with
  | .lst ds => if flatD x = true ∧ ds.all flatD = true then some (.bl (if neg = true then !(ds.any fun y => eqF y x) else ds.any fun y => eqF y x)) else none
  | .tup ds => if flatD x = true ∧ ds.all flatD = true then some (.bl (if neg = true then !(ds.any fun y => eqF y x) else ds.any fun y => eqF y x)) else none
  | .str z => match x with
    | .str s => match s.cps.toList with
      | [c] => some (.bl (if neg = true then !decide (c ∈ z.cps.toList) else decide (c ∈ z.cps.toList)))
      | _ => none
    | _ => none
  | _ => none
noncomputable def rIn2 (K : PySem.W.Frag) (neg : Bool) : R2 := fun x y H Q => rIn K neg x y H Q ∨ ∃ (c : Nat) (z : Str), x = .str ⟨#[c]⟩ ∧ y = .str z ∧ Q (.bl (if neg = true then !decide (c ∈ z.cps.toList) else decide (c ∈ z.cps.toList))) H
theorem op_in2 : OpR X (compareOp .In) (rIn2 X.K false) := op_in_seq.or op_in_sign
theorem op_notIn2 : OpR X (compareOp .NotIn) (rIn2 X.K true) := op_notIn_seq.or op_notIn_sign
theorem in_rd {neg : Bool} {H F : Hp} {x y : D} {vx vy : V} {d : D} {Q : VK} (s : Same F H) (hx : Fz X.mg X.K F x vx) (hy : RdV X.mg X.K F H y vy) (e : gIn neg x y = some d) (q : Ans X .fz H F d Q) : rIn2 X.K neg vx vy H Q := by
  unfold gIn at e
  split at e
  · split at e
    · rename_i hf
      cases e
      obtain ⟨a, vs, rfl, h, hs⟩ := rd_lst s hy
      refine .inl ⟨a, vs, rfl, .inl h, flat_fz hx hf.1, flats_fz hs hf.2, ?_⟩
      rw [inV_fz hx hf.1 hs hf.2]
      exact ans_here q s (.bl _)
    · cases e
  · split at e
    · rename_i hf
      cases e
      obtain ⟨a, vs, rfl, h, _, hs⟩ := rd_tup s hy
      refine .inl ⟨a, vs, rfl, .inr h, flat_fz hx hf.1, flats_fz hs hf.2, ?_⟩
      rw [inV_fz hx hf.1 hs hf.2]
      exact ans_here q s (.bl _)
    · cases e
  · split at e
    · split at e
      · rename_i c hc
        cases e
        obtain rfl := rd_str hy
        cases hx
        refine .inr ⟨c, _, ?_, rfl, ans_here q s (.bl _)⟩
        congr 1
        exact Str.ext' (Array.toList_inj.mp (by simpa using hc))
      · cases e
    · cases e
  · cases e
/-- x in y, y readable -/
theorem de_in {neg : Bool} {op : CmpOp} {a b : Expr} {fa fb : EX} {pos : Pos} (ho : OpR X (compareOp op) (rIn2 X.K neg)) (ha : DE X τ a fa .fz) (hb : DR X τ b fb) (hm : behindInMarks op b = false := by rfl) : DE X τ (.Compare a [op] [b] pos) (eB (gIn neg) fa fb) .fz := by
  obtain ⟨ta, pa, qa⟩ := ha.go
  obtain ⟨tb, pb, qb⟩ := hb.go
  refine ⟨_, pe_cmpR ho pa pb hm, fun σ H F env fp Q S q => ?_⟩
  obtain ⟨d, env', e, q⟩ := q
  simp only [eB, Option.bind_eq_some_iff, Option.map_eq_some_iff] at e
  obtain ⟨⟨x, env1⟩, e1, ⟨y, env2⟩, e2, d', e3, e4⟩ := e
  cases e4
  refine qa σ H F env fp _ S ⟨x, env1, e1, fun vx H1 F1 fp1 fr1 S1 r1 f1 s1 => ?_⟩
  obtain ⟨z1, rfl⟩ := r1.fz_inv
  refine qb σ H1 F1 env1 fp1 _ S1 ⟨y, env2, e2, fun vy H2 F2 fp2 S2 r2 s2 => ?_⟩
  refine in_rd S2.fh (z1.mono s2.ff) r2 e3 fun v H' F' fr n rv nd hf => ?_
  obtain ⟨A, B, C⟩ := fin_new S2 (s1.nofr.trans s2) n nd hf
  exact q v H' F' fp2 fr A rv B C
theorem dt_in {neg : Bool} {op : CmpOp} {a b : Expr} {fa fb : EX} {pos : Pos} (ho : OpR X (compareOp op) (rIn2 X.K neg)) (ha : DE X τ a fa .fz) (hb : DR X τ b fb) (hm : behindInMarks op b = false := by rfl) : DT X τ (.Compare a [op] [b] pos) (bT (eB (gIn neg) fa fb)) := by
  obtain ⟨ta, pa, qa⟩ := ha.go
  obtain ⟨tb, pb, qb⟩ := hb.go
  refine ⟨_, pt_cmpR ho pa pb hm, fun σ H F env fp Q S q => ?_⟩
  obtain ⟨c, env', e, q⟩ := q
  simp only [bT, eB, Option.bind_eq_some_iff, Option.map_eq_some_iff] at e
  obtain ⟨⟨d, env3⟩, ⟨⟨x, env1⟩, e1, ⟨y, env2⟩, e2, d', e3, e4⟩, e5⟩ := e
  cases e4
  refine qa σ H F env fp _ S ⟨x, env1, e1, fun vx H1 F1 fp1 fr1 S1 r1 f1 s1 => ?_⟩
  obtain ⟨z1, rfl⟩ := r1.fz_inv
  refine qb σ H1 F1 env1 fp1 _ S1 ⟨y, env2, e2, fun vy H2 F2 fp2 S2 r2 s2 => ?_⟩
  refine in_rd S2.fh (z1.mono s2.ff) r2 e3 fun v H' F' fr n rv nd hf => ?_
  obtain ⟨A, B, C⟩ := fin_new S2 (s1.nofr.trans s2) n nd hf
  obtain ⟨zv, rfl⟩ := rv.fz_inv
  cases d with
  | bl k =>
    cases e5
    cases zv
    exact ⟨_, rfl, q H' F' fp2 A C.nofr⟩
  | _ => cases e5
/-! ### enumerate of a readable list -/
noncomputable def enumD : Nat → List D → List D
  | _, [] => []
  | n, d :: ds => .raw [.int n, d] :: enumD (n + 1) ds
theorem enumD_at : ∀ {ds : List D} {n i : Nat} {d : D}, (enumD n ds)[i]? = some d → ∃ x, ds[i]? = some x ∧ d = .raw [.int ((n + i : Nat)), x]
  | [], _, _, _, h => by simp [enumD] at h
  | x :: ds, n, 0, d, h => by simp [enumD] at h; exact ⟨x, rfl, by rw [← h]; rfl⟩
  | x :: ds, n, i + 1, d, h => by
    simp only [enumD, List.getElem?_cons_succ] at h ⊢
    obtain ⟨y, h1, h2⟩ := enumD_at h
    refine ⟨y, h1, ?_⟩
    rw [h2, show n + 1 + i = n + (i + 1) by omega]
theorem enumD_length : ∀ {ds : List D} {n : Nat}, (enumD n ds).length = ds.length
  | [], _ => rfl
  | _ :: ds, n => congrArg (· + 1) enumD_length
theorem feeds_enum {mg : Str → Option Value} {K : PySem.W.Frag} {F0 H0 : Hp} {Bd : Addr → Prop} {a : Addr} {vs : List V} {ds : List D} (hs : FzL mg K F0 ds vs) (h : ∀ (H F : Hp), Same F0 F → Same F H → (∀ a, Bd a → ∀ o, H0 a = some o → H a = some o) → SqL K H a vs) : Feeds mg K F0 H0 Bd (Ite K a) (enumD 0 ds) := by
  intro i H F s1 s2 hb
  have q := h H F s1 s2 hb
  refine ⟨fun hi => ⟨vs, q, by rw [enumD_length] at hi; rw [← hs.length]; exact hi⟩, fun d e => ?_⟩
  obtain ⟨x, e1, rfl⟩ := enumD_at e
  obtain ⟨v, ev, rv⟩ := hs.get e1
  refine ⟨⟨vs, v, q, ev⟩, fun x' H' y => ?_⟩
  obtain ⟨T, x2, rfl, nT, rfl, y⟩ := y
  have : vs[i]? = some x2 := y vs q
  rw [ev] at this; cases this
  have nw := new_upd (o := .tup [.int (i : Nat), v]) s2 nT
  refine ⟨_, nw, .raw (.inl (.inl upd_same)) (.cons ?_ (.cons ((rv.mono s1).mono nw.ff) .nil))⟩
  rw [Nat.zero_add]
  exact .int _
noncomputable def iEnumX (f : AX) : AX := fun env => (f env).map fun x => (enumD 0 x.1, x.2)
/-- the source: a frozen list -/
noncomputable def iEn (f : EX) : AX := fun env => (f env).bind fun x => match x.1 with | .lst ds => some (enumD 0 ds, x.2) | _ => none
theorem di_enum {elts : List Expr} {kk : Nat} {tpos : Pos} {e : Expr} {f : EX} {p pos : Pos} (h : DE X τ e f .fz) (hm : X.mg "enumerate" = none) (hg : Gl X "enumerate" := by rfl) (hs : starEach [e] X.env = [(false, eval e X.env)] := by rfl) :
    DI X τ (.Tuple elts kk tpos) (.Call (.Name "enumerate" p) [e] [] pos) (iEn f) := by
  obtain ⟨t, pt, q⟩ := h.go
  refine ⟨_, pi_enum hg hm (pa_cons pt pa_nil hs) hs, fun σ H F env fp R S ⟨ds, env', e, k⟩ => ?_⟩
  simp only [iEn, Option.bind_eq_some_iff] at e
  obtain ⟨⟨d, env1⟩, e1, e⟩ := e
  refine q σ H F env fp _ S ⟨d, env1, e1, fun v H' F' fp' fr S' rv f' s => ?_⟩
  obtain ⟨z, rfl⟩ := rv.fz_inv
  cases d with
  | lst es =>
    cases e
    cases z with
    | lst hz hs => exact ⟨_, _, rfl, SqL.of (S'.fh _ _ hz), k _ H' F' fp' S' s.nofr (feeds_enum hs fun H2 F2 s1 s2 _ => SqL.of (s2 _ _ (s1 _ _ hz)))⟩
  | _ => cases e
/-! ### constants of the module -/
theorem de_glob {x : Str} {v : V} {u : Value} {d : D} {pos : Pos} (hm : X.mg x = some u) (r : RelV v u) (hf : ∀ F, Fz X.mg X.K F d v) (hg : Gl X x := by rfl) (hd : (x == ("__debug__" : Str)) = false := by decide) : DE X τ (.Name x pos) (eC d) .fz := de_const (pe_glob hg hm r hd) hf
end
end DL
namespace DL
open PySem PySem.Spec PyProof.Rows L2
section
variable {X : Cx} {τ τ1 : Tau}
/-! ### return, whatever need not be kept forgotten -/
noncomputable def sRetF (mask : List Nat) (f : EX) : SX := fun env => (f env).map fun x => .rt x.1 (fgE mask x.2)
theorem ds_retF (mask : List Nat) {e : Expr} {f : EX} {ρ : Ow} {pos : Pos} {n b c : Tau} (he : DE X τ e f ρ) : DS X τ (.Return (some e) pos) (sRetF mask f) ⟨n, b, c, fgt mask τ, ρ⟩ := by
  obtain ⟨t, p, q⟩ := (ds_ret (n := n) (b := b) (c := c) (pos := pos) he).go
  refine ⟨t, p, fun D σ H F env fp S ⟨r, e, k⟩ => ?_⟩
  simp only [sRetF, Option.map_eq_some_iff] at e
  obtain ⟨⟨d, env1⟩, e1, rfl⟩ := e
  refine q D σ H F env fp S ⟨.rt d env1, by rw [sRet, e1]; rfl, fun v σ' H' F' fp' fr S' rv f' s => ?_⟩
  obtain ⟨fp2, S2, h2⟩ := S'.forgets mask
  exact k v σ' H' F' fp2 fr S2 rv ⟨f'.nd, f'.nf, fun a m z => f'.dj a m (h2 a z)⟩ (s.sub fun a h => h.elim (fun z => .inl (h2 a z)) .inr)
theorem ds_retFN (mask : List Nat) {pos : Pos} {n b c : Tau} : DS X τ (.Return none pos) (sRetF mask (eC .non)) ⟨n, b, c, fgt mask τ, .fz⟩ := by
  obtain ⟨t, p, q⟩ := (ds_retN (X := X) (τ := τ) (n := n) (b := b) (c := c) (pos := pos)).go
  refine ⟨t, p, fun D σ H F env fp S ⟨r, e, k⟩ => ?_⟩
  cases e
  refine q D σ H F env fp S ⟨.rt .non env, rfl, fun v σ' H' F' fp' fr S' rv f' s => ?_⟩
  obtain ⟨fp2, S2, h2⟩ := S'.forgets mask
  exact k v σ' H' F' fp2 fr S2 rv ⟨f'.nd, f'.nf, fun a m z => f'.dj a m (h2 a z)⟩ (s.sub fun a h => h.elim (fun z => .inl (h2 a z)) .inr)
noncomputable def sRetVF (mask : List Nat) (i : Nat) : SX := fun env => (env[i]?).join.map fun d => .rt d (fgE mask (env.set i none))
theorem ds_retVF (mask : List Nat) (i : Nat) {x : Str} {pos pos' : Pos} {n b c : Tau} (hN : X.N[i]? = some x := by rfl) (hv : Vis X.env.scope x := by first | exact Or.inl rfl | exact Or.inr (Or.inl rfl) | exact Or.inr (Or.inr rfl)) (hd : (x == ("__debug__" : Str)) = false := by decide)
    (hcd : (x == ("__classdict__" : Str)) = false := by decide) : DS X τ (.Return (some (.Name x pos')) pos) (sRetVF mask i) ⟨n, b, c, fgt mask τ, tg τ i⟩ := by
  obtain ⟨t, p, q⟩ := (ds_retV (X := X) (τ := τ) i (n := n) (b := b) (c := c) (pos := pos) (pos' := pos') hN hv hd hcd).go
  refine ⟨t, p, fun D σ H F env fp S ⟨r, e, k⟩ => ?_⟩
  simp only [sRetVF, Option.map_eq_some_iff] at e
  obtain ⟨d, e1, rfl⟩ := e
  refine q D σ H F env fp S ⟨.rt d (env.set i none), by rw [sRetV, e1]; rfl, fun v σ' H' F' fp' fr S' rv f' s => ?_⟩
  obtain ⟨fp2, S2, h2⟩ := S'.forgets mask
  exact k v σ' H' F' fp2 fr S2 rv ⟨f'.nd, f'.nf, fun a m z => f'.dj a m (h2 a z)⟩ (s.sub fun a h => h.elim (fun z => .inl (h2 a z)) .inr)
theorem ds_doc {x : Str} {j : Nat} {pos pos' : Pos} {b c r : Tau} {w : Ow} : DS X τ (.Expr (.Constant (.str x) j pos) pos') sNil ⟨τ, b, c, r, w⟩ := ⟨_, ps_doc, fun D σ H F env fp S ⟨r, e, q⟩ => by
  cases e
  exact q σ H F fp S Stp.refl⟩
/-! ### a < b < c -/
noncomputable def bCh (p q : Int → Int → Bool) (a b c : EX) : BX := fun env => (a env).bind fun x => (b x.2).bind fun y => match x.1, y.1 with
  | .int i, .int j => if p i j = true then (c y.2).bind fun z => match z.1 with
      | .int k => some (q j k, z.2)
      | _ => none
    else some (false, y.2)
  | _, _ => none
theorem dt_chain {op op' : CmpOp} {p q : Int → Int → Bool} {a b c : Expr} {fa fb fc : EX} {pos : Pos} (ho : OpR X (compareOp op) (rI0 fun i j => .bl (p i j))) (ho' : OpR X (compareOp op') (rI0 fun i j => .bl (q i j))) (ha : DE X τ a fa .fz) (hb : DE X τ b fb .fz) (hc : DE X τ c fc .fz)
    (hm : lastMarks [op, op'] [b, c] = false := by with_unfolding_all rfl) : DT X τ (.Compare a [op, op'] [b, c] pos) (bCh p q fa fb fc) := by
  obtain ⟨ta, pa, qa⟩ := ha.go
  obtain ⟨tb, pb, qb⟩ := hb.go
  obtain ⟨tc, pc, qc⟩ := hc.go
  refine ⟨_, pt_chain ho ho' pa pb pc hm, fun σ H F env fp Q S ⟨d, env', e, k⟩ => ?_⟩
  simp only [bCh, Option.bind_eq_some_iff] at e
  obtain ⟨⟨x, env1⟩, e1, ⟨y, env2⟩, e2, e⟩ := e
  refine qa σ H F env fp _ S ⟨x, env1, e1, fun vx H1 F1 fp1 fr1 S1 r1 f1 s1 => ?_⟩
  obtain ⟨z1, rfl⟩ := r1.fz_inv
  refine qb σ H1 F1 env1 fp1 _ S1 ⟨y, env2, e2, fun vy H2 F2 fp2 fr2 S2 r2 f2 s2 => ?_⟩
  obtain ⟨z2, rfl⟩ := r2.fz_inv
  split at e
  · rename_i i j hi hj
    have hi : x = .int i := hi
    have hj : y = .int j := hj
    subst hi hj
    cases z1; cases z2
    refine ⟨i, j, rfl, rfl, _, rfl, ?_⟩
    split at e
    · rename_i hp
      rw [if_pos hp]
      simp only [Option.bind_eq_some_iff] at e
      obtain ⟨⟨z, env3⟩, e3, e⟩ := e
      refine qc σ H2 F2 env2 fp2 _ S2 ⟨z, env3, e3, fun vz H3 F3 fp3 fr3 S3 r3 f3 s3 => ?_⟩
      obtain ⟨z3, rfl⟩ := r3.fz_inv
      cases z with
      | int m =>
        cases z3; cases e
        exact ⟨_, _, rfl, rfl, _, rfl, k H3 F3 fp3 S3 ((s1.nofr.trans s2.nofr).trans s3.nofr)⟩
      | _ => cases e
    · rename_i hp
      rw [if_neg hp]
      cases e
      exact ⟨false, rfl, k H2 F2 fp2 S2 (s1.nofr.trans s2.nofr)⟩
  · cases e
/-! ### index of a frozen list or tuple -/
noncomputable def gIx1 (xs : List D) (y : D) : Option D := if xs.all flatD = true ∧ flatD y = true then (xs.findIdx? fun z => eqF z y).map fun (j : Nat) => .int j else none
noncomputable def gTIndex (x : D) (as : List D) : Option D := match x, as with
  | .tup xs, [y] => gIx1 xs y
  | _, _ => none
noncomputable def gLIndex (x : D) (as : List D) : Option D := match x, as with
  | .lst xs, [y] => gIx1 xs y
  | _, _ => none
noncomputable def rTIndex (K : PySem.W.Frag) : V → List V → Hp → VK → Prop := fun x xs H Q => ∃ (p : Addr) (ys : List V) (y : V) (j : Nat) (z : V), x = .ref p ∧ xs = [y] ∧ SqT K H p ys ∧ flatV y = true ∧ ys.all flatV = true ∧ ys[j]? = some z ∧ eqV z y = true ∧
  (∀ (m : Nat) (z' : V), m < j → ys[m]? = some z' → eqV z' y = false) ∧ Q (.int (j : Nat)) H
theorem mt_tupIndex : MtR X "tuple.index" (rTIndex X.K) := by
  intro pins s σ H x xs v us Q I rx rs h
  obtain ⟨p, ys, y, j, z, rfl, rfl, hq, fy, fys, hz, hzj, hno, q⟩ := h
  cases rx
  cases rs with
  | cons ry rt =>
    rename_i uy ut
    cases rt
    obtain ⟨its, r, pl, hzl⟩ := I.tuple hq
    obtain ⟨⟨cls, dd, dt, sl⟩, ho, hc, n, hd⟩ := pl
    simp only at hc hd
    subst hc
    subst hd
    obtain ⟨u, hu, ru⟩ := r.get hz
    obtain ⟨hjl, hje⟩ := List.getElem?_eq_some_iff.mp hu
    have hvl := r.length
    have hj : j < its.toArray.size := by simpa using hjl
    refine call_meets PySem.F.slot_tuple_index ⟨_, ho, rfl⟩ PySem.F.entry_tuple_index (PySem.F.args_tuple_index_2 _ _) (TI.tuple_indexAt p its.toArray n dd sl uy (eqU y) j hj ?_ ?_)
      ⟨ho, fun w hw => mem_eqAt ry fy r fys w (by simpa using hw), ⟨.int (j : Nat), H, I.tok _, ⟨_, rfl⟩, q⟩⟩
    · have e1 : its.toArray[j] = u := by simpa using hje
      rw [e1, eqU_of ru (flat_at fys hz)]
      exact hzj
    · intro m hm hmj
      have hml : m < its.length := by simpa using hm
      have hmy : m < ys.length := by omega
      have hy' : ys[m]? = some ys[m] := List.getElem?_eq_getElem hmy
      obtain ⟨u2, hu2, ru2⟩ := r.get hy'
      obtain ⟨_, hme⟩ := List.getElem?_eq_some_iff.mp hu2
      have e1 : its.toArray[m] = u2 := by simpa using hme
      rw [e1, eqU_of ru2 (flat_at fys hy')]
      exact hno m _ hmj hy'
/-- its kind: a list or a tuple -/
noncomputable def tySq (K : PySem.W.Frag) (T : String) (x : V) (H : Hp) : Prop := ∃ p ys, x = .ref p ∧ (T = "tuple" ∧ SqT K H p ys ∨ T = "list" ∧ SqL K H p ys)
theorem find_at {p : D → Bool} : ∀ {l : List D} {j : Nat}, l.findIdx? p = some j → ∃ z, l[j]? = some z ∧ p z = true ∧ ∀ (m : Nat) (y : D), m < j → l[m]? = some y → p y = false := fun {l j} h => by
  rw [List.findIdx?_eq_some_iff_getElem] at h
  obtain ⟨h1, h2, h3⟩ := h
  refine ⟨l[j], List.getElem?_eq_getElem h1, h2, fun m y hm e => ?_⟩
  obtain ⟨_, e⟩ := List.getElem?_eq_some_iff.mp e
  have := h3 m hm
  rw [e] at this
  simpa using this
theorem ty_tup : TyOk X "tuple" (tyTup X.K) := by
  intro pins σ H s x v I r ty
  obtain ⟨p, ys, rfl, h⟩ := ty
  cases r
  rcases h with ⟨o, h, hd⟩ | ⟨o, its, n, ⟨h1, h2⟩, h3, h4⟩
  · obtain ⟨e, _, its, _, pl⟩ := I.hok p _ h
    refine ⟨pl.typeIs, fun a e2 => ?_⟩
    cases e2
    exact ⟨o, e, hd⟩
  · refine ⟨⟨o, I.kIn p o h1, h3⟩, fun a e2 => ?_⟩
    cases e2
    exact ⟨o, I.kIn _ o h1, h2⟩
theorem ty_lstV : TyOk X "list" (tyV X.K "list") := fun _ _ _ _ _ _ I r ty => tyV_is I r ty
/-- index and the like: a frozen receiver, arguments that are read -/
noncomputable def eMt (k : D → Bool) (g : D → List D → Option D) (fo : EX) (f : AX) : EX := fun env => (fo env).bind fun x => if k x.1 = true then (f x.2).bind fun y => (g x.1 y.1).map fun d => (d, y.2) else none
noncomputable def MtD (X : Cx) (r : V → List V → Hp → VK → Prop) (g : D → List D → Option D) (ρ : Ow) : Prop :=
  ∀ (H F : Hp) (x : D) (vx : V) (as : List D) (us : List V) (d : D) (Q : VK), Same F H → Fz X.mg X.K F x vx → FzL X.mg X.K F as us → g x as = some d → Ans X ρ H F d Q → r vx us H Q
theorem de_mt {T id : String} {ty : V → Hp → Prop} {r : V → List V → Hp → VK → Prop} {k : D → Bool} {g : D → List D → Option D} {ρ : Ow} {o e : Expr} {es : List Expr} {nm : Str} {apos pos : Pos} {fo : EX} {f : AX} (ht : TyOk X T ty) (pa : PlainAttrs T) (slot : Slot T nm id) (hty : typeOf (.builtin id) = pure (.type "method_descriptor")) (hm : MtR X id r)
    (hk : ∀ (H F : Hp) (x : D) (v : V), Same F H → Fz X.mg X.K F x v → k x = true → ty v H) (hg : MtD X r g ρ) (ho : DE X τ o fo .fz) (ha : DA X τ (e :: es) f)
    (hbase : attributeBase o nm X.env (eval o X.env) = eval o X.env := by rfl)
    (hfew : ((backTo pos (starEach (e :: es) X.env)).all (fun x => !x.1) && (backToKw pos (keywordEach [] X.env)).all (fun x => x.1.isSome) && decide ((e :: es).length + ([] : List Keyword).length + (if ([] : List Keyword).isEmpty then 0 else 1) < 30)) = true := by rfl)
    (hline : (apos.endLine == pos.line) = true := by rfl) (hs : starEach (e :: es) X.env = (false, eval e X.env) :: starEach es X.env := by rfl) (hplain : (backTo pos (starEach es X.env)).any (·.1) = false := by rfl) :
    DE X τ (.Call (.Attribute o nm apos) (e :: es) [] pos) (eMt k g fo f) ρ := by
  obtain ⟨to, po, qo⟩ := ho.go
  obtain ⟨ta, pa', qa⟩ := ha.go
  refine ⟨_, pe_mG ht pa slot hty hm po pa' hbase hfew hline hs hplain, fun σ H F env fp Q S ⟨d, env', e, q⟩ => ?_⟩
  simp only [eMt, Option.bind_eq_some_iff] at e
  obtain ⟨⟨x, env1⟩, e1, e⟩ := e
  refine qo σ H F env fp _ S ⟨x, env1, e1, fun v H1 F1 fp1 fr1 S1 r1 f1 s1 => ?_⟩
  obtain ⟨z1, rfl⟩ := r1.fz_inv
  split at e
  · rename_i hkx
    simp only [Option.bind_eq_some_iff, Option.map_eq_some_iff] at e
    obtain ⟨⟨as, env2⟩, e2, d', e3, e4⟩ := e
    cases e4
    refine ⟨hk H1 F1 x v S1.fh z1 hkx, qa σ H1 F1 env1 fp1 _ S1 ⟨as, env2, e2, fun us H2 F2 fp2 S2 r2 s2 => ?_⟩⟩
    refine hg H2 F2 x v as us d Q S2.fh (z1.mono s2.ff) r2 e3 fun v H' F' fr n rv nd hf => ?_
    obtain ⟨A, B, C⟩ := fin_new S2 (s1.nofr.trans s2) n nd hf
    exact q v H' F' fp2 fr A rv B C
  · cases e
noncomputable def isTup : D → Bool
  | .tup _ => true
  | _ => false
noncomputable def isLst : D → Bool
  | .lst _ => true
  | _ => false
noncomputable def isStr : D → Bool
  | .str _ => true
  | _ => false
theorem k_tup {H F : Hp} {x : D} {v : V} (s : Same F H) (h : Fz X.mg X.K F x v) (k : isTup x = true) : tyTup X.K v H := by
  cases h with
  | tup h hs => exact ⟨_, _, rfl, Same.seqD s h⟩
  | _ => cases k
theorem k_lst {H F : Hp} {x : D} {v : V} (s : Same F H) (h : Fz X.mg X.K F x v) (k : isLst x = true) : tyV X.K "list" v H := by
  cases h with
  | lst h hs => exact .inl ⟨rfl, _, SqL.of (s _ _ h)⟩
  | _ => cases k
theorem idx_fz {F : Hp} {ds : List D} {vs : List V} {y d : D} {vy : V} (hs : FzL X.mg X.K F ds vs) (hy : Fz X.mg X.K F y vy) (e : (if ds.all flatD = true ∧ flatD y = true then (ds.findIdx? fun z => eqF z y).map fun (j : Nat) => D.int j else none) = some d) :
    ∃ (j : Nat) (z : V), d = .int j ∧ flatV vy = true ∧ vs.all flatV = true ∧ vs[j]? = some z ∧ eqV z vy = true ∧ ∀ (m : Nat) (z' : V), m < j → vs[m]? = some z' → eqV z' vy = false := by
  split at e
  · rename_i hf
    simp only [Option.map_eq_some_iff] at e
    obtain ⟨j, e, rfl⟩ := e
    obtain ⟨z, h1, h2, h3⟩ := find_at e
    obtain ⟨vz, g1, g2⟩ := hs.get h1
    have al : ∀ {m : Nat} {z : D}, ds[m]? = some z → flatD z = true := fun h => List.all_eq_true.mp hf.1 _ (List.mem_of_getElem? h)
    refine ⟨j, vz, rfl, flat_fz hy hf.2, flats_fz hs hf.1, g1, by rw [eqF_fz g2 hy (al h1) hf.2]; exact h2, fun m z' hm e' => ?_⟩
    obtain ⟨dz, k1, k2⟩ := hs.get' e'
    rw [eqF_fz k2 hy (al k1) hf.2]
    exact h3 m dz hm k1
  · cases e
theorem md_tupIndex : MtD X (rTIndex X.K) gTIndex .fz := by
  intro H F x vx as us d Q s hx ha e q
  unfold gTIndex at e
  split at e
  · obtain ⟨vy, rfl, hy⟩ := fz_one ha
    cases hx with
    | tup h hs =>
    obtain ⟨j, z, rfl, a1, a2, a3, a4, a5⟩ := idx_fz hs hy e
    exact ⟨_, _, _, j, z, rfl, rfl, (Same.seqD s h).toT, a1, a2, a3, a4, a5, ans_here q s (.int _)⟩
  · cases e
theorem md_lstIndex : MtD X (rIndex X.K) gLIndex .fz := by
  intro H F x vx as us d Q s hx ha e q
  unfold gLIndex at e
  split at e
  · obtain ⟨vy, rfl, hy⟩ := fz_one ha
    cases hx with
    | lst h hs =>
    obtain ⟨j, z, rfl, a1, a2, a3, a4, a5⟩ := idx_fz hs hy e
    exact ⟨_, _, _, j, z, rfl, rfl, SqL.of (s _ _ h), a1, a2, a3, a4, a5, ans_here q s (.int _)⟩
  · cases e
theorem de_tupIndex {o e : Expr} {apos pos : Pos} {fo f : EX} (ho : DE X τ o fo .fz) (ha : DE X τ e f .fz) (hbase : attributeBase o "index" X.env (eval o X.env) = eval o X.env := by rfl)
    (hfew : ((backTo pos (starEach [e] X.env)).all (fun x => !x.1) && (backToKw pos (keywordEach [] X.env)).all (fun x => x.1.isSome) && decide ([e].length + ([] : List Keyword).length + (if ([] : List Keyword).isEmpty then 0 else 1) < 30)) = true := by rfl)
    (hline : (apos.endLine == pos.line) = true := by rfl) (hs : starEach [e] X.env = (false, eval e X.env) :: starEach [] X.env := by rfl) (hplain : (backTo pos (starEach [] X.env)).any (·.1) = false := by rfl) :
    DE X τ (.Call (.Attribute o "index" apos) [e] [] pos) (eMt isTup gTIndex fo (aC f aN)) .fz :=
  de_mt ty_tup PySem.F.plainAttrs_tuple PySem.F.slot_tuple_index PySem.F.type_tuple_index mt_tupIndex (fun _ _ _ _ s h k => k_tup s h k) md_tupIndex ho (da_cons ha da_nil hs) hbase hfew hline hs hplain
theorem de_lstIndex {o e : Expr} {apos pos : Pos} {fo f : EX} (ho : DE X τ o fo .fz) (ha : DE X τ e f .fz) (hbase : attributeBase o "index" X.env (eval o X.env) = eval o X.env := by rfl)
    (hfew : ((backTo pos (starEach [e] X.env)).all (fun x => !x.1) && (backToKw pos (keywordEach [] X.env)).all (fun x => x.1.isSome) && decide ([e].length + ([] : List Keyword).length + (if ([] : List Keyword).isEmpty then 0 else 1) < 30)) = true := by rfl)
    (hline : (apos.endLine == pos.line) = true := by rfl) (hs : starEach [e] X.env = (false, eval e X.env) :: starEach [] X.env := by rfl) (hplain : (backTo pos (starEach [] X.env)).any (·.1) = false := by rfl) :
    DE X τ (.Call (.Attribute o "index" apos) [e] [] pos) (eMt isLst gLIndex fo (aC f aN)) .fz :=
  de_mt ty_lstV PySem.F.plainAttrs_list PySem.F.slot_list_index PySem.F.type_list_index mt_index (fun _ _ _ _ s h k => k_lst s h k) md_lstIndex ho (da_cons ha da_nil hs) hbase hfew hline hs hplain
end
/-- never called: no fuel left -/
theorem cal_none {P : Program} {w : World} {K : PySem.W.Frag} {mg : Str → Option Value} {base : Heap} {x qual : Str} {st : Stmt} {f : Addr} {fd : FuncData} {ps : List Str} {k : Nat} {ms : List Pm} {ρ : Ow} (F : Fun K x qual st f fd) (hb : Binds K fd ps []) (hm : mg x = some (.ref f)) : Cal P w K mg base x k ms ρ (fun _ => none) := by
  refine ⟨f, fd, ps, ⟨fun vs H Q E h => ?_, fun A outer s H args us vs Q E hr he hbt hv h => ?_⟩, hb, hm, F.kp⟩
  · obtain ⟨_, F0, ds, fps, r, S0, e, k0⟩ := h
    cases e
  · obtain ⟨_, F0, ds, fps, r, S0, e, k0⟩ := h
    cases e
end DL
namespace DL
open PySem PySem.Spec PyProof.Rows L2
/-! ### the law's own promise -/
noncomputable def noLists (K : PySem.W.Frag) : Bool := K.all fun p => !(p.2.cls == .type "list")
theorem lookup_mem {K : PySem.W.Frag} {a : Addr} {o : Obj} (h : K.lookup a = some o) : (a, o) ∈ K := by
  induction K with
  | nil => simp at h
  | cons p r ih =>
    obtain ⟨b, u⟩ := p
    rw [List.lookup_cons] at h
    split at h
    · rename_i e
      have : a = b := by simpa using e
      cases h
      subst this
      exact List.mem_cons_self
    · exact List.mem_cons_of_mem _ (ih h)
noncomputable def spEnd : Sp := fun vs H Q _ => ∃ (a : Addr) (ns : List Int), vs = [.ref a] ∧ ns.length ≤ 63 ∧ Rd H a (.lst (ns.map V.int)) ∧ ∀ H', Q (.bl true) H'
theorem sp_end {K : PySem.W.Frag} {H : Hp} {a : Addr} {ns : List Int} {E : XK} (hl : ns.length ≤ 63) (h : SqL K H a (ns.map V.int)) (hk : noLists K = true) : spEnd [.ref a] H (fun v _ => v = .bl true) E := by
  refine ⟨a, ns, rfl, hl, ?_, fun _ => rfl⟩
  rcases h with h | ⟨o, its, n, h1, h2, _⟩
  · exact h
  · have := List.all_eq_true.mp hk _ (lookup_mem h1)
    simp [h2] at this
theorem end_sp {K : PySem.W.Frag} {mg : Str → Option Value} {G : GF} (hG : ∀ ns : List Int, ns.length ≤ 63 → ∃ e, G [.lst (ns.map .int)] = some (.bl true, e)) (vs : List V) (H : Hp) (Q : VK) (E : XK) (h : spEnd vs H Q E) : SpD mg K [.br] .fz G vs H Q E := by
  obtain ⟨a, ns, rfl, hl, hr, q⟩ := h
  obtain ⟨e, he⟩ := hG ns hl
  refine ⟨rfl, fun _ => none, [.lst (ns.map .int)], fun _ => [], (.bl true, e), ⟨(fun _ _ z => by cases z), rfl, rfl, fun i d z => ?_, fun _ _ => rfl, fun _ => List.nodup_nil, fun _ _ _ z => by simp at z, fun _ _ z => by simp at z, fun i b z => ?_⟩, he, fun v H' F' fps' fr _ rv _ _ => ?_⟩
  · cases i with
    | zero =>
      have : d = .lst (ns.map .int) := by simpa using z.symm
      subst this
      exact ⟨.ref a, rfl, .br hr (FzL.of_ints ns)⟩
    | succ i => simp at z
  · cases i with
    | zero =>
      have : a = b := z
      subst this
      refine ⟨?_, fun ⟨_, m⟩ => by simp at m⟩
      rcases hr with hr | ⟨o, hr⟩ <;> rw [hr] <;> simp
    | succ i => exact False.elim z
  · cases rv with
    | fz rv =>
    cases rv
    exact q H'
theorem cx_end {P : Program} {w : World} {H : Hp} {s : Shared} {e : Value} {s' : Shared} (h : L2.CX P w [] H s (fun _ _ _ => False) e s') : False := by
  obtain ⟨_, _, _, _, _, _, _, _, _, _, _, _, h⟩ := h
  exact h
theorem end_wrap {P : Program} {w : World} {K : PySem.W.Frag} {mg : Str → Option Value} {CX : CXT} {k : Nat} {fa : Addr} {x : Str} {G : GF} (h : ∃ fd : FuncData, (∀ (s : Shared) (v : Value), BindsTo s fd ⟨[v], []⟩ [(x, v)]) ∧ ∀ base : Heap, K.In base → base.Ns mainGlobals mg → FnOk P w K mg base CX k fa fd [x] (SpD mg K [.br] .fz G))
    (hG : ∀ ns : List Int, ns.length ≤ 63 → ∃ e, G [.lst (ns.map .int)] = some (.bl true, e)) : ∃ fd : FuncData, (∀ (s : Shared) (v : Value), BindsTo s fd ⟨[v], []⟩ [(x, v)]) ∧ ∀ base : Heap, K.In base → base.Ns mainGlobals mg → FnOk P w K mg base CX k fa fd [x] spEnd := by
  obtain ⟨fd, q1, q2⟩ := h
  exact ⟨fd, q1, fun base h1 h2 => (q2 base h1 h2).imp (end_sp hG)⟩
end DL
namespace DL
open PySem L2
/-! ### the combinators at a state -/
section
variable {env : En}
@[simp] theorem eC_ap {d : D} : eC d env = some (d, env) := rfl
@[simp] theorem eV_ap {i : Nat} : eV i env = (env[i]?).join.map fun d => (d, env) := rfl
@[simp] theorem eU_ap {g : D → Option D} {a : EX} : eU g a env = (a env).bind fun x => (g x.1).map fun d => (d, x.2) := rfl
@[simp] theorem eB_ap {g : D → D → Option D} {a b : EX} : eB g a b env = (a env).bind fun x => (b x.2).bind fun y => (g x.1 y.1).map fun d => (d, y.2) := rfl
@[simp] theorem eIf_ap {c : BX} {a b : EX} : eIf c a b env = (c env).bind fun x => if x.1 = true then a x.2 else b x.2 := rfl
@[simp] theorem aN_ap : aN env = some ([], env) := rfl
@[simp] theorem aC_ap {a : EX} {r : AX} : aC a r env = (a env).bind fun x => (r x.2).map fun y => (x.1 :: y.1, y.2) := rfl
@[simp] theorem aS_ap {i : Nat} {r : AX} : aS i r env = (env[i]?).join.bind fun _ => (r env).map fun y => (.non :: y.1, y.2) := rfl
@[simp] theorem eA_ap {g : List D → Option D} {a : AX} : eA g a env = (a env).bind fun x => (g x.1).map fun d => (d, x.2) := rfl
theorem bT_ap {a : EX} : bT a env = (a env).bind fun x => match x.1 with | .bl c => some (c, x.2) | _ => none := rfl
noncomputable def asB : D → Option Bool
  | .bl c => some c
  | _ => none
@[simp] theorem asB_bl {c : Bool} : asB (.bl c) = some c := rfl
@[simp] theorem bT_ap' {a : EX} : bT a env = (a env).bind fun x => (asB x.1).map fun c => (c, x.2) := by
  rw [bT_ap]
  congr 1
  funext ⟨d, e⟩
  cases d <;> rfl
@[simp] theorem bAnd_ap {a b : BX} : bAnd a b env = (a env).bind fun x => if x.1 = true then b x.2 else some (false, x.2) := rfl
@[simp] theorem bOr_ap {a b : BX} : bOr a b env = (a env).bind fun x => if x.1 = true then some (true, x.2) else b x.2 := rfl
@[simp] theorem bNot_ap {a : BX} : bNot a env = (a env).map fun x => (!x.1, x.2) := rfl
@[simp] theorem bTr_ap {a : EX} : bTr a env = (a env).bind fun x => (tru x.1).map fun c => (c, x.2) := rfl
@[simp] theorem vAnd_ap {a b : EX} : vAnd a b env = (a env).bind fun x => (asB x.1).bind fun c => if c = true then b x.2 else some (.bl false, x.2) := by
  unfold vAnd
  congr 1
  funext ⟨d, e⟩
  cases d <;> try rfl
  rename_i c
  cases c <;> rfl
@[simp] theorem vOr_ap {a b : EX} : vOr a b env = (a env).bind fun x => (asB x.1).bind fun c => if c = true then some (.bl true, x.2) else b x.2 := by
  unfold vOr
  congr 1
  funext ⟨d, e⟩
  cases d <;> try rfl
  rename_i c
  cases c <;> rfl
@[simp] theorem sNil_ap : sNil env = some (.nx env) := rfl
@[simp] theorem sBk_ap : sBk env = some (.bk env) := rfl
@[simp] theorem sCt_ap : sCt env = some (.ct env) := rfl
/-- what follows -/
noncomputable def thn1 (g : SX) : SR → Option SR
  | .nx e => g e
  | .rt d e => some (.rt d e)
  | .bk e => some (.bk e)
  | .ct e => some (.ct e)
@[simp] theorem thn1_nx {g : SX} {e : En} : thn1 g (.nx e) = g e := rfl
@[simp] theorem thn1_rt {g : SX} {d : D} {e : En} : thn1 g (.rt d e) = some (.rt d e) := rfl
@[simp] theorem thn1_bk {g : SX} {e : En} : thn1 g (.bk e) = some (.bk e) := rfl
@[simp] theorem thn1_ct {g : SX} {e : En} : thn1 g (.ct e) = some (.ct e) := rfl
@[simp] theorem sSeq_ap {f g : SX} : sSeq f g env = (f env).bind (thn1 g) := by
  unfold sSeq
  cases f env with
  | none => rfl
  | some r => cases r <;> rfl
@[simp] theorem sSet_ap {i : Nat} {f : EX} : sSet i f env = (f env).map fun x => .nx (x.2.set i (some x.1)) := rfl
@[simp] theorem sDrop_ap {f : EX} : sDrop f env = (f env).map fun x => .nx x.2 := rfl
@[simp] theorem sIf_ap {c : BX} {a b : SX} : sIf c a b env = (c env).bind fun x => if x.1 = true then a x.2 else b x.2 := rfl
@[simp] theorem sRetF_ap {m : List Nat} {f : EX} : sRetF m f env = (f env).map fun x => .rt x.1 (fgE m x.2) := rfl
@[simp] theorem sRetVF_ap {m : List Nat} {i : Nat} : sRetVF m i env = (env[i]?).join.map fun d => .rt d (fgE m (env.set i none)) := rfl
@[simp] theorem sAug_ap {i : Nat} {g : D → D → Option D} {f : EX} : sAug i g f env = (env[i]?).join.bind fun x => (f env).bind fun y => (g x y.1).map fun d => .nx (y.2.set i (some d)) := rfl
@[simp] theorem sAsg_ap {g : GX} {f : EX} : sAsg g f env = (f env).bind fun x => (g x.1 x.2).map .nx := rfl
@[simp] theorem gtN_ap {i : Nat} {d : D} : gtN i d env = some (env.set i (some d)) := rfl
@[simp] theorem gtNil_ap : gtNil [] env = some env := rfl
@[simp] theorem gtCons_ap {g : GX} {r : List D → En → Option En} {d : D} {ds : List D} : gtCons g r (d :: ds) env = (g d env).bind fun e => r ds e := rfl
@[simp] theorem gtTup_tup {n : Nat} {r : List D → En → Option En} {ds : List D} : gtTup n r (.tup ds) env = if ds.length = n then r ds env else none := rfl
@[simp] theorem gtTup_raw {n : Nat} {r : List D → En → Option En} {ds : List D} : gtTup n r (.raw ds) env = if ds.length = n then r ds env else none := rfl
@[simp] theorem fgE_nil : fgE [] env = env := rfl
@[simp] theorem fgE_cons {i : Nat} {m : List Nat} : fgE (i :: m) env = fgE m (env.set i none) := rfl
@[simp] theorem eCall_ap {ms : List Pm} {ks : List Ak} {G : GF} {f : AX} : eCall ms ks G f env = (f env).bind fun x => (fill ks x.1 x.2).bind fun as => (G as).map fun r => (r.1, puts (slots ms ks) r.2 x.2) := rfl
@[simp] theorem fill_nil : fill [] [] env = some [] := rfl
@[simp] theorem fill_v {ks : List Ak} {d : D} {ds : List D} : fill (.v :: ks) (d :: ds) env = (fill ks ds env).map fun r => d :: r := rfl
@[simp] theorem fill_s {i : Nat} {ks : List Ak} {d : D} {ds : List D} : fill (.s i :: ks) (d :: ds) env = (env[i]?).join.bind fun d => (fill ks ds env).map fun r => d :: r := rfl
@[simp] theorem slots_nil : slots [] [] = [] := rfl
@[simp] theorem slots_ms {w : Ow} {ms : List Pm} {i : Nat} {ks : List Ak} : slots (.mt w :: ms) (.s i :: ks) = some i :: slots ms ks := rfl
@[simp] theorem slots_fv {ms : List Pm} {k : Ak} {ks : List Ak} : slots (.fz :: ms) (k :: ks) = none :: slots ms ks := by cases k <;> rfl
@[simp] theorem slots_bv {ms : List Pm} {k : Ak} {ks : List Ak} : slots (.br :: ms) (k :: ks) = none :: slots ms ks := by cases k <;> rfl
@[simp] theorem puts_nil {r : En} : puts [] r env = env := by cases r <;> rfl
@[simp] theorem puts_some {i : Nat} {ss : List (Option Nat)} {x : Option D} {r : En} : puts (some i :: ss) (x :: r) env = puts ss r (env.set i x) := rfl
@[simp] theorem puts_none {ss : List (Option Nat)} {x : Option D} {r : En} : puts (none :: ss) (x :: r) env = puts ss r env := rfl
@[simp] theorem outs_nil {e : En} : outs [] e = [] := rfl
@[simp] theorem outs_mt {w : Ow} {ms : List Pm} {x : Option D} {e : En} : outs (.mt w :: ms) (x :: e) = x :: outs ms e := rfl
@[simp] theorem outs_fz {ms : List Pm} {x : Option D} {e : En} : outs (.fz :: ms) (x :: e) = none :: outs ms e := rfl
@[simp] theorem outs_br {ms : List Pm} {x : Option D} {e : En} : outs (.br :: ms) (x :: e) = none :: outs ms e := rfl
noncomputable def fin (ms : List Pm) (ρ : Ow) : SR → Option (D × En)
  | .rt d e => some (d, outs ms e)
  | .nx e => if isFz ρ = true then some (.non, outs ms e) else none
  | _ => none
@[simp] theorem fin_rt {ms : List Pm} {ρ : Ow} {d : D} {e : En} : fin ms ρ (.rt d e) = some (d, outs ms e) := rfl
@[simp] theorem fin_nx {ms : List Pm} {e : En} : fin ms .fz (.nx e) = some (.non, outs ms e) := rfl
theorem gf_ap {den : SX} {ms : List Pm} {ρ : Ow} {n : Nat} {ds : List D} : gf den ms ρ n ds = (den (ds.map some ++ List.replicate (n - ds.length) none)).bind (fin ms ρ) := by
  show (den _).bind _ = (den _).bind _
  cases den (ds.map some ++ List.replicate (n - ds.length) none) with
  | none => rfl
  | some r => cases r <;> rfl
/-! loops -/
@[simp] theorem iRng_ap {g : List D → Option (List D)} {f : AX} : iRng g f env = (f env).bind fun x => (g x.1).map fun ds => (ds, x.2) := rfl
noncomputable def seqD : D → Option (List D)
  | .lst ds => some ds
  | .tup ds => some ds
  | .str z => some (signsD z)
  | _ => none
@[simp] theorem seqD_lst {ds : List D} : seqD (.lst ds) = some ds := rfl
@[simp] theorem seqD_tup {ds : List D} : seqD (.tup ds) = some ds := rfl
@[simp] theorem seqD_str {z : Str} : seqD (.str z) = some (signsD z) := rfl
@[simp] theorem iSeq_ap {f : EX} : iSeq f env = (f env).bind fun x => (seqD x.1).map fun ds => (ds, x.2) := by
  unfold iSeq
  congr 1
  funext ⟨d, e⟩
  cases d <;> rfl
noncomputable def lstD : D → Option (List D)
  | .lst ds => some ds
  | _ => none
@[simp] theorem lstD_lst {ds : List D} : lstD (.lst ds) = some ds := rfl
@[simp] theorem iEn_ap {f : EX} : iEn f env = (f env).bind fun x => (lstD x.1).map fun ds => (enumD 0 ds, x.2) := by
  unfold iEn
  congr 1
  funext ⟨d, e⟩
  cases d <;> rfl
@[simp] theorem iBr_ap {i : Nat} : iBr i env = (env[i]?).join.bind fun x => (lstD x).map fun ds => (ds, env) := by
  unfold iBr
  cases (env[i]?).join with
  | none => rfl
  | some d => cases d <;> rfl
@[simp] theorem eLk_ap {i : Nat} {f : EX} : eLk i f env = (env[i]?).join.bind fun x => (lstD x).bind fun _ => f env := by
  unfold eLk
  cases (env[i]?).join with
  | none => rfl
  | some d => cases d <;> rfl
@[simp] theorem sLk_ap {i : Nat} {f : SX} : sLk i f env = (env[i]?).join.bind fun x => (lstD x).bind fun _ => f env := by
  unfold sLk
  cases (env[i]?).join with
  | none => rfl
  | some d => cases d <;> rfl
@[simp] theorem eMut_ap {i : Nat} {g : List D → List D → Option (List D × D)} {f : AX} : eMut i g f env = (env[i]?).join.bind fun x => (lstD x).bind fun _ => (f env).bind fun a => (a.2[i]?).join.bind fun x2 => (lstD x2).bind fun ds => (g ds a.1).map fun y => (y.2, a.2.set i (some (.lst y.1))) := by
  unfold eMut
  cases (env[i]?).join with
  | none => rfl
  | some d =>
    cases d <;> try rfl
    simp only [Option.bind_some, lstD_lst]
    congr 1
    funext a
    cases (a.2[i]?).join with
    | none => rfl
    | some d => cases d <;> rfl
noncomputable def intD : D → Option Int
  | .int i => some i
  | _ => none
@[simp] theorem intD_int {i : Int} : intD (.int i) = some i := rfl
@[simp] theorem eIxO_ap {i : Nat} {f : EX} : eIxO i f env = (env[i]?).join.bind fun x => (lstD x).bind fun _ => (f env).bind fun k => (k.2[i]?).join.bind fun x2 => (lstD x2).bind fun ds => (intD k.1).bind fun j => (atI ds j).map fun d => (d, k.2) := by
  unfold eIxO
  cases (env[i]?).join with
  | none => rfl
  | some d =>
    cases d <;> try rfl
    simp only [Option.bind_some, lstD_lst]
    congr 1
    funext ⟨k, e⟩
    cases (e[i]?).join with
    | none => rfl
    | some d => cases d <;> cases k <;> rfl
@[simp] theorem gtI_ap {i : Nat} {fk : EX} {d : D} : gtI i fk d env = (env[i]?).join.bind fun x => (lstD x).bind fun _ => (fk env).bind fun k => (k.2[i]?).join.bind fun x2 => (lstD x2).bind fun ds => (intD k.1).bind fun j => (ixN ds.length j).map fun m => k.2.set i (some (.lst (ds.set m d))) := by
  unfold gtI gtIx
  cases (env[i]?).join with
  | none => rfl
  | some d0 =>
    cases d0 <;> try rfl
    simp only [Option.bind_some, lstD_lst]
    congr 1
    funext ⟨k, e⟩
    cases (e[i]?).join with
    | none => rfl
    | some d => cases d <;> cases k <;> rfl
@[simp] theorem eLc_ap {it : AX} {set : GX} {cond : BX} {elt : EX} {vs : List Nat} : eLc it set cond elt vs env = (it env).bind fun x => (compL set cond elt vs x.1 [] (fgE vs x.2)).map fun y => (.lst y.1, y.2) := rfl
@[simp] theorem sFor_ap {it : AX} {set : GX} {body : SX} {mask : List Nat} : sFor it set body mask env = (it env).bind fun x => forL set body mask x.1 x.2 := rfl
@[simp] theorem eSl_ap {f : EX} {fl fh : En → Option (Option Int × En)} : eSl f fl fh env = (f env).bind fun x => (fl x.2).bind fun l => (fh l.2).bind fun h => (gSl x.1 l.1 h.1).map fun d => (d, h.2) := rfl
@[simp] theorem oI_ap {f : EX} : oI f env = (f env).bind fun x => (intD x.1).map fun i => (some i, x.2) := by
  unfold oI
  congr 1
  funext ⟨d, e⟩
  cases d <;> rfl
@[simp] theorem eMt_ap {k : D → Bool} {g : D → List D → Option D} {fo : EX} {f : AX} : eMt k g fo f env = (fo env).bind fun x => if k x.1 = true then (f x.2).bind fun y => (g x.1 y.1).map fun d => (d, y.2) else none := rfl
end
/-! operations on data -/
@[simp] theorem gAdd_int {i j : Int} : gAdd (.int i) (.int j) = some (.int (i + j)) := rfl
@[simp] theorem gAdd_str {x y : Str} : gAdd (.str x) (.str y) = if big (x.length + y.length) = true then none else some (.str (x ++ y)) := rfl
@[simp] theorem gAdd_tup {xs ys : List D} : gAdd (.tup xs) (.tup ys) = if big (xs.length + ys.length) = true then none else some (.tup (xs ++ ys)) := rfl
@[simp] theorem gCat_lst {xs ys : List D} : gCat (.lst xs) (.lst ys) = if big (xs.length + ys.length) = true then none else some (.lst (xs ++ ys)) := rfl
@[simp] theorem gI_int {f : Int → Int → Int} {i j : Int} : gI f (.int i) (.int j) = some (.int (f i j)) := rfl
@[simp] theorem gIf_int {c : Int → Int → Bool} {f : Int → Int → Int} {i j : Int} : gIf c f (.int i) (.int j) = if c i j = true then some (.int (f i j)) else none := rfl
@[simp] theorem gNeg_int {i : Int} : gNeg (.int i) = some (.int (-i)) := rfl
@[simp] theorem gC_int {p : Int → Int → Bool} {i j : Int} : gC p (.int i) (.int j) = some (.bl (p i j)) := rfl
@[simp] theorem gIx_tup {xs : List D} {i : Int} : gIx (.tup xs) (.int i) = atI xs i := rfl
@[simp] theorem gIx_lst {xs : List D} {i : Int} : gIx (.lst xs) (.int i) = atI xs i := rfl
@[simp] theorem gTup_ap {xs : List D} : gTup xs = if big xs.length = true then none else some (.tup xs) := rfl
@[simp] theorem gLst_ap {xs : List D} : gLst xs = if big xs.length = true then none else some (.lst xs) := rfl
@[simp] theorem gNot_bl {b : Bool} : gNot (.bl b) = some (.bl (!b)) := rfl
@[simp] theorem gLen_lst {xs : List D} : gLen (.lst xs) = some (.int xs.length) := rfl
@[simp] theorem gLen_tup {xs : List D} : gLen (.tup xs) = some (.int xs.length) := rfl
@[simp] theorem gSum_lst {xs : List D} : gSum (.lst xs) = (intsD xs).map fun ns => .int ns.sum := rfl
@[simp] theorem gSum_tup {xs : List D} : gSum (.tup xs) = (intsD xs).map fun ns => .int ns.sum := rfl
@[simp] theorem gMax_lst {xs : List D} : gMax (.lst xs) = (intsD xs).bind fun ns => if ns.isEmpty = true then none else some (.int (maxI ns)) := rfl
@[simp] theorem gMin_lst {xs : List D} : gMin (.lst xs) = (intsD xs).bind fun ns => if ns.isEmpty = true then none else some (.int (minI ns)) := rfl
@[simp] theorem gMax2_ap {i j : Int} : gMax2 [.int i, .int j] = some (.int (max i j)) := rfl
@[simp] theorem gMin2_ap {i j : Int} : gMin2 [.int i, .int j] = some (.int (min i j)) := rfl
@[simp] theorem gInt_int {i : Int} : gInt [.int i] = some (.int i) := rfl
@[simp] theorem gTuple_lst {xs : List D} : gTuple (.lst xs) = some (.tup xs) := rfl
@[simp] theorem gTuple_tup {xs : List D} : gTuple (.tup xs) = some (.tup xs) := rfl
@[simp] theorem gList_lst {xs : List D} : gList (.lst xs) = some (.lst xs) := rfl
@[simp] theorem gList_tup {xs : List D} : gList (.tup xs) = some (.lst xs) := rfl
@[simp] theorem gAll_lst {xs : List D} : gAll (.lst xs) = (bls xs).map fun bs => .bl (bs.all id) := rfl
@[simp] theorem gAny_lst {xs : List D} : gAny (.lst xs) = (bls xs).map fun bs => .bl (bs.any id) := rfl
@[simp] theorem tru_lst {xs : List D} : tru (.lst xs) = some (!xs.isEmpty) := rfl
@[simp] theorem tru_tup {xs : List D} : tru (.tup xs) = some (!xs.isEmpty) := rfl
@[simp] theorem tru_bl {b : Bool} : tru (.bl b) = some b := rfl
@[simp] theorem tru_int {i : Int} : tru (.int i) = some (i != 0) := rfl
@[simp] theorem gAppend_ap {ds : List D} {d : D} : gAppend ds [d] = if big (ds.length + 1) = true then none else some (ds ++ [d], .non) := rfl
@[simp] theorem gExtend_ap {ds es : List D} : gExtend ds [.lst es] = if big (ds.length + es.length) = true then none else some (ds ++ es, .non) := rfl
@[simp] theorem gPop_ap {ds : List D} : gPop ds [] = (ds.getLast?).map fun d => (ds.dropLast, d) := rfl
@[simp] theorem gRev_lst {xs : List D} : gRev (.lst xs) = some (.lst xs.reverse) := rfl
@[simp] theorem gRng1_ap {j : Int} : gRng1 [.int j] = if near j = true then some (rngD 0 j) else none := rfl
@[simp] theorem gRng2_ap {i j : Int} : gRng2 [.int i, .int j] = if near i = true ∧ near j = true then some (rngD i j) else none := rfl
@[simp] theorem gIsN_non : gIsN .non .non = some (.bl true) := rfl
@[simp] theorem gIsN_tup {xs : List D} : gIsN (.tup xs) .non = some (.bl false) := rfl
@[simp] theorem gIsN_lst {xs : List D} : gIsN (.lst xs) .non = some (.bl false) := rfl
@[simp] theorem gIsN_int {i : Int} : gIsN (.int i) .non = some (.bl false) := rfl
@[simp] theorem gIsN_bl {b : Bool} : gIsN (.bl b) .non = some (.bl false) := rfl
@[simp] theorem gIsN_str {x : Str} : gIsN (.str x) .non = some (.bl false) := rfl
theorem gEq_int {i j : Int} : gEq (.int i) (.int j) = some (.bl (decide (i = j))) := by
  have h : SeqAt.shaped (.int i) = true := by simp [SeqAt.shaped, PyData.canLay, PyData.canLay0, PyData.depth]
  have h' : SeqAt.shaped (.int j) = true := by simp [SeqAt.shaped, PyData.canLay, PyData.canLay0, PyData.depth]
  simp only [gEq, py, Option.bind_some, h, h', and_self, if_true]
  rfl
theorem gNe_int {i j : Int} : gNe (.int i) (.int j) = some (.bl (!decide (i = j))) := by
  have h : SeqAt.shaped (.int i) = true := by simp [SeqAt.shaped, PyData.canLay, PyData.canLay0, PyData.depth]
  have h' : SeqAt.shaped (.int j) = true := by simp [SeqAt.shaped, PyData.canLay, PyData.canLay0, PyData.depth]
  simp only [gNe, py, Option.bind_some, h, h', and_self, if_true]
  rfl
theorem big_of {n : Nat} (h : n ≤ 16777216) : big n = false := ask_false (by omega)
theorem near_of {i : Int} (h : -4611686018427387904 ≤ i) (h2 : i < 4611686018427387904) : near i = true := ask_true ⟨by omega, by omega⟩
theorem atI_nat {α : Type} {xs : List α} {j : Nat} : atI xs (j : Int) = xs[j]? := by
  unfold atI ixN
  rw [if_pos (by omega)]
  by_cases h : j < xs.length
  · rw [if_pos (by omega)]; simp
  · rw [if_neg (by omega)]; simp; omega
@[simp] theorem atI_0 {α : Type} {x0 : α} {r : List α} : atI (x0 :: r) 0 = some x0 := by
  have h : atI (x0 :: r) ((0 : Nat) : Int) = some x0 := by rw [atI_nat]; rfl
  exact h
@[simp] theorem atI_1 {α : Type} {x0 x1 : α} {r : List α} : atI (x0 :: x1 :: r) 1 = some x1 := by
  have h : atI (x0 :: x1 :: r) ((1 : Nat) : Int) = some x1 := by rw [atI_nat]; rfl
  exact h
@[simp] theorem atI_2 {α : Type} {x0 x1 x2 : α} {r : List α} : atI (x0 :: x1 :: x2 :: r) 2 = some x2 := by
  have h : atI (x0 :: x1 :: x2 :: r) ((2 : Nat) : Int) = some x2 := by rw [atI_nat]; rfl
  exact h
@[simp] theorem atI_3 {α : Type} {x0 x1 x2 x3 : α} {r : List α} : atI (x0 :: x1 :: x2 :: x3 :: r) 3 = some x3 := by
  have h : atI (x0 :: x1 :: x2 :: x3 :: r) ((3 : Nat) : Int) = some x3 := by rw [atI_nat]; rfl
  exact h
@[simp] theorem atI_4 {α : Type} {x0 x1 x2 x3 x4 : α} {r : List α} : atI (x0 :: x1 :: x2 :: x3 :: x4 :: r) 4 = some x4 := by
  have h : atI (x0 :: x1 :: x2 :: x3 :: x4 :: r) ((4 : Nat) : Int) = some x4 := by rw [atI_nat]; rfl
  exact h
@[simp] theorem atI_5 {α : Type} {x0 x1 x2 x3 x4 x5 : α} {r : List α} : atI (x0 :: x1 :: x2 :: x3 :: x4 :: x5 :: r) 5 = some x5 := by
  have h : atI (x0 :: x1 :: x2 :: x3 :: x4 :: x5 :: r) ((5 : Nat) : Int) = some x5 := by rw [atI_nat]; rfl
  exact h
@[simp] theorem atI_6 {α : Type} {x0 x1 x2 x3 x4 x5 x6 : α} {r : List α} : atI (x0 :: x1 :: x2 :: x3 :: x4 :: x5 :: x6 :: r) 6 = some x6 := by
  have h : atI (x0 :: x1 :: x2 :: x3 :: x4 :: x5 :: x6 :: r) ((6 : Nat) : Int) = some x6 := by rw [atI_nat]; rfl
  exact h
theorem ixN_nat {n j : Nat} (h : j < n) : ixN n (j : Int) = some j := by
  unfold ixN
  rw [if_pos (by omega), if_pos (by omega)]; simp
/-! ### loops by invariants -/
noncomputable def turn (set : GX) (body : SX) (m : List Nat) (ds : List D) : SR → Option SR
  | .nx e2 => forL set body m ds (fgE m e2)
  | .ct e2 => forL set body m ds (fgE m e2)
  | .bk e2 => some (.nx (fgE m e2))
  | .rt d e2 => some (.rt d e2)
theorem forL_cons {set : GX} {body : SX} {m : List Nat} {d : D} {ds : List D} {e : En} : forL set body m (d :: ds) e = (set d e).bind fun e1 => (body e1).bind (turn set body m ds) := by
  show ((set d e).bind fun e1 => (body e1).bind fun r => match r with
    | .nx e2 => forL set body m ds (fgE m e2)
    | .ct e2 => forL set body m ds (fgE m e2)
    | .bk e2 => some (.nx (fgE m e2))
    | .rt d e2 => some (.rt d e2)) = _
  refine congrArg _ (funext fun e1 => congrArg _ (funext fun r => ?_))
  cases r <;> rfl
theorem forL_nil {set : GX} {body : SX} {m : List Nat} {e : En} : forL set body m [] e = some (.nx e) := rfl
/-- each turn goes on: the state is a fold -/
theorem forL_fold {S : Type} {set : GX} {body : SX} {m : List Nat} (rep : S → En) (step : S → D → S) (I : List D → S → Prop) :
    ∀ (ds : List D) (s : S), I ds s → (∀ d ds s, I (d :: ds) s → I ds (step s d) ∧ ∃ e1 e2, set d (rep s) = some e1 ∧ (body e1 = some (.nx e2) ∨ body e1 = some (.ct e2)) ∧ fgE m e2 = rep (step s d)) → forL set body m ds (rep s) = some (.nx (rep (ds.foldl step s)))
  | [], s, _, _ => rfl
  | d :: ds, s, h, k => by
    obtain ⟨h1, e1, e2, a, b, c⟩ := k d ds s h
    rw [forL_cons, a, Option.bind_some]
    rcases b with b | b
    · rw [b, Option.bind_some]
      show forL set body m ds (fgE m e2) = _
      rw [c]
      exact forL_fold rep step I ds (step s d) h1 k
    · rw [b, Option.bind_some]
      show forL set body m ds (fgE m e2) = _
      rw [c]
      exact forL_fold rep step I ds (step s d) h1 k
/-- a comprehension: its items by a function of the item -/
theorem compL_map {set : GX} {cond : BX} {elt : EX} {vs : List Nat} {e : En} {f : D → Option D} : ∀ (ds acc : List D), (∀ d ∈ ds, ∃ e1 c e2, set d e = some e1 ∧ cond e1 = some (c, e2) ∧ (c = true → ∃ y e3, elt e2 = some (y, e3) ∧ fgE vs e3 = e ∧ f d = some y) ∧ (c = false → fgE vs e2 = e ∧ f d = none)) →
    acc.length + ds.length ≤ 16777216 → compL set cond elt vs ds acc e = some (acc ++ ds.filterMap f, e)
  | [], acc, _, _ => by rw [compL]; simp
  | d :: ds, acc, h, hb => by
    obtain ⟨e1, c, e2, a, b, k1, k2⟩ := h d List.mem_cons_self
    rw [compL, a, Option.bind_some, b, Option.bind_some]
    rw [List.length_cons] at hb
    cases c with
    | true =>
      obtain ⟨y, e3, k3, k4, k5⟩ := k1 rfl
      simp only [if_true]
      rw [k3, Option.bind_some, big_of (by omega), k4]
      simp only [Bool.false_eq_true, if_false]
      rw [compL_map ds (acc ++ [y]) (fun d hd => h d (List.mem_cons_of_mem _ hd)) (by rw [List.length_append, List.length_singleton]; omega), List.filterMap_cons, k5]
      simp
    | false =>
      obtain ⟨k4, k5⟩ := k2 rfl
      simp only [Bool.false_eq_true, if_false]
      rw [k4, compL_map ds acc (fun d hd => h d (List.mem_cons_of_mem _ hd)) (by omega), List.filterMap_cons, k5]
end DL
namespace DL
open PySem L2
/-! ### what the laws draw their input from -/
noncomputable def msPool : List Pm := [.br]
noncomputable def dPool : SX :=
  (sRetF [0, 1] (eA gLst (aC (eLc (iBr 0) (gtN 1) (fun env => some (true, env)) (eIf (bT (eB (gC fun i j => decide (j ≤ i)) (eV 1) (eC (.int 0)))) (eB (gIf cMul fun i j => i * j) (eC (.int 2)) (eV 1)) (eB (gI fun i j => i - j) (eB (gIf cMul fun i j => i * j) (eU gNeg (eC (.int 2))) (eV 1)) (eC (.int 1)))) [1]) (aC (eC (.int 0)) (aC (eC (.int 0)) (aC (eC (.int 17)) aN))))))
noncomputable def gPool : GF := gf dPool msPool (.ls .fz) 2
noncomputable def msTake : List Pm := [.mt (.ls .fz), .fz]
noncomputable def dTake (rec : GF) : SX :=
  (sSeq (sIf (bT (eB (gC fun i j => decide (j < i)) (eIxO 0 (eC (.int 2))) (eC (.int 0))))
  (sSeq (sSet 2 (eB (gIf cMod fun i j => i % j) (eA gInt (aC (eIxO 0 (eC (.int 2))) aN)) (eV 1)))
  (sSeq (sAsg (gtI 0 (eC (.int 2))) (eB (gIf cDiv fun i j => i / j) (eIxO 0 (eC (.int 2))) (eV 1)))
  (sRetF [1, 2, 3, 4] (eV 2))))
  sNil)
  (sSeq (sSet 3 (eC (.int 0)))
  (sSeq (sIf (bT (eB (gC fun i j => decide (i < j)) (eIxO 0 (eC (.int 1))) (eU gLen (eIxO 0 (eC (.int 0))))))
  (sSet 3 (eB gIx (eIxO 0 (eC (.int 0))) (eIxO 0 (eC (.int 1)))))
  sNil)
  (sSeq (sAsg (gtI 0 (eC (.int 1))) (eB gAdd (eIxO 0 (eC (.int 1))) (eC (.int 1))))
  (sSeq (sIf (bT (eB (gC fun i j => decide (j ≤ i)) (eV 3) (eB (gIf cPow fun i j => i ^ j.toNat) (eC (.int 10)) (eC (.int 18)))))
  (sSeq (sAsg (gtI 0 (eC (.int 2))) (eB (gIf cDiv fun i j => i / j) (eV 3) (eC (.int 2))))
  (sRetF [1, 2, 3, 4] (eCall msTake [.s 0, .v] rec (aS 0 (aC (eV 1) aN)))))
  sNil)
  (sSeq (sAsg (gtI 0 (eC (.int 3))) (eB (gIf cMod fun i j => i % j) (eA gInt (aC (eB gAdd (eB gAdd (eB (gIf cMul fun i j => i * j) (eIxO 0 (eC (.int 3))) (eC (.int 48271))) (eB (gIf cMul fun i j => i * j) (eV 3) (eC (.int 69621)))) (eB (gIf cMul fun i j => i * j) (eIxO 0 (eC (.int 1))) (eC (.int 613)))) aN)) (eC (.int 2147483647))))
  (sSeq (sSet 4 (eB (gIf cMod fun i j => i % j) (eA gInt (aC (eB gAdd (eB gAdd (eB (gIf cMul fun i j => i * j) (eIxO 0 (eC (.int 3))) (eIxO 0 (eC (.int 3)))) (eB (gIf cMul fun i j => i * j) (eIxO 0 (eC (.int 3))) (eC (.int 7919)))) (eC (.int 104729))) aN)) (eC (.int 1000000007))))
  (sRetF [1, 2, 3, 4] (eB (gIf cMod fun i j => i % j) (eA gInt (aC (eB (gIf cDiv fun i j => i / j) (eV 4) (eC (.int 3))) aN)) (eV 1))))))))))
noncomputable def rTake : Nat → GF
  | 0 => fun _ => none
  | n + 1 => gf (dTake (rTake n)) msTake .fz 5
noncomputable def gTake : GF := rTake 2
noncomputable def Pool (p : D) : Prop := ∃ (cs : List Int) (a b c : Int), p = .lst [.lst (cs.map .int), .int a, .int b, .int c] ∧ 0 ≤ a ∧ 0 ≤ b ∧ 0 ≤ c ∧ c < 2147483647
theorem pool_ok (ns : List Int) (h : ns.length ≤ 63) : ∃ p, gPool [.lst (ns.map .int)] = some (p, [none]) ∧ Pool p := by
  have hc : ∀ f : Int → Int, True := fun _ => trivial
  have e : gPool [.lst (ns.map .int)] = (dPool [some (.lst (ns.map .int)), none]).bind (fin msPool (.ls .fz)) := gf_ap
  rw [e]
  simp only [dPool, sRetF_ap, eA_ap, aC_ap, eLc_ap, iBr_ap]
  simp only [List.getElem?_cons_zero, Option.join_some, Option.bind_some, lstD_lst, Option.map_some, fgE_cons, fgE_nil, List.set_cons_succ, List.set_cons_zero]
  rw [compL_map (f := fun d => match d with | .int i => some (.int (if 0 ≤ i then 2 * i else -2 * i - 1)) | _ => none)]
  · have hf : (ns.map D.int).filterMap (fun d => match d with | .int i => some (D.int (if 0 ≤ i then 2 * i else -2 * i - 1)) | _ => none) = (ns.map fun i => if 0 ≤ i then 2 * i else -2 * i - 1).map .int := by
      clear h e hc
      induction ns with
      | nil => rfl
      | cons n r ih => rw [List.map_cons, List.filterMap_cons, ih]; rfl
    rw [hf]
    simp [big, ask_false, msPool]
    exact ⟨ns.map fun i => if 0 ≤ i then 2 * i else -2 * i - 1, 0, 0, 17, by simp, by omega, by omega, by omega, by omega⟩
  · intro d hd
    obtain ⟨i, hi, rfl⟩ := List.mem_map.mp hd
    refine ⟨_, true, _, rfl, rfl, fun _ => ?_, fun h => by cases h⟩
    by_cases h0 : 0 ≤ i
    · exact ⟨.int (2 * i), [some (.lst (ns.map .int)), some (.int i)], by simp [ask_true, h0, cMul], by simp, by simp [h0]⟩
    · exact ⟨.int (-2 * i - 1), [some (.lst (ns.map .int)), some (.int i)], by simp [ask_true, h0, cMul], by simp, by simp [h0]⟩
  · simp; omega
theorem take_first {p : D} {a b c m : Int} {f : D} (n : Nat) (hp : p = .lst [f, .int a, .int b, .int c]) (hb : 0 < b) (hm : 1 ≤ m) (hm2 : m < 1073741824) :
    rTake (n + 1) [p, .int m] = some (.int (b % m), [some (.lst [f, .int a, .int (b / m), .int c]), none]) := by
  subst hp
  have e : ∀ q r : D, rTake (n + 1) [q, r] = (dTake (rTake n) [some q, some r, none, none, none]).bind (fin msTake .fz) := fun _ _ => gf_ap
  rw [e]
  have h1 : 0 < m := by omega
  simp [ask_true, dTake, ixN, hb, msTake, cMod, cDiv, h1, hm2]
theorem take_ok {p : D} {m : Int} (hp : Pool p) (hm : 1 ≤ m) (hm2 : m < 1073741824) : ∃ r p', gTake [p, .int m] = some (.int r, [some p', none]) ∧ 0 ≤ r ∧ r < m ∧ Pool p' := by
  obtain ⟨cs, a, b, c, rfl, ha, hb, hc, hc2⟩ := hp
  have h1 : 0 < m := by omega
  have md : ∀ z : Int, 0 ≤ z % m ∧ z % m < m := fun z => ⟨Int.emod_nonneg _ (by omega), Int.emod_lt_of_pos _ h1⟩
  by_cases h0 : 0 < b
  · exact ⟨_, _, take_first 1 rfl h0 hm hm2, (md _).1, (md _).2, cs, a, b / m, c, rfl, ha, Int.ediv_nonneg hb (by omega), hc, hc2⟩
  have e : ∀ (n : Nat) (q r : D), rTake (n + 1) [q, r] = (dTake (rTake n) [some q, some r, none, none, none]).bind (fin msTake .fz) := fun _ _ _ => gf_ap
  -- the cell that is read
  obtain ⟨cell, hcell⟩ : ∃ cell : Int, cell = if a < (cs.length : Int) then (cs[a.toNat]?).getD 0 else 0 := ⟨_, rfl⟩
  have hrd : a < (cs.length : Int) → atI (cs.map D.int) a = some (.int cell) := fun h => by
    have hl : a.toNat < cs.length := by omega
    have : a = ((a.toNat : Nat) : Int) := by omega
    rw [this, atI_nat, List.getElem?_map, List.getElem?_eq_getElem hl, hcell, if_pos h, List.getElem?_eq_getElem hl]
    rfl
  have hno : ¬ a < (cs.length : Int) → cell = 0 := fun h => by rw [hcell, if_neg h]
  have tail : cell < 1000000000000000000 → ∃ r p', gTake [.lst [.lst (cs.map .int), .int a, .int b, .int c], .int m] = some (.int r, [some p', none]) ∧ 0 ≤ r ∧ r < m ∧ Pool p' := fun hlt => by
    have k : ¬ 1000000000000000000 ≤ cell := by omega
    obtain ⟨mix, hmix⟩ : ∃ z : Int, z = (c * 48271 + cell * 69621 + (a + 1) * 613) % 2147483647 := ⟨_, rfl⟩
    have m0 : 0 ≤ mix := by rw [hmix]; exact Int.emod_nonneg _ (by omega)
    have m1 : mix < 2147483647 := by rw [hmix]; exact Int.emod_lt_of_pos _ (by omega)
    refine ⟨((mix * mix + mix * 7919 + 104729) % 1000000007 / 3) % m, .lst [.lst (cs.map .int), .int (a + 1), .int b, .int mix], ?_, (md _).1, (md _).2, cs, a + 1, b, mix, rfl, by omega, hb, m0, m1⟩
    show rTake (1 + 1) _ = _
    rw [e]
    have q1 : -18446744073709551616 < mix := by omega
    have q2 : mix < 18446744073709551616 := by omega
    by_cases hlt : a < (cs.length : Int)
    · simp [ask_true, dTake, ixN, h0, cMod, cDiv, cPow, cMul, hlt, hrd hlt, k, msTake, h1, ← hmix, q1, q2]
    · have hz := hno hlt
      have hmix2 : mix = (c * 48271 + (a + 1) * 613) % 2147483647 := by rw [hmix, hz]; simp
      simp [ask_true, dTake, ixN, h0, cMod, cDiv, cPow, cMul, hlt, msTake, h1, ← hmix2, q1, q2]
  have top : 1000000000000000000 ≤ cell → ∃ r p', gTake [.lst [.lst (cs.map .int), .int a, .int b, .int c], .int m] = some (.int r, [some p', none]) ∧ 0 ≤ r ∧ r < m ∧ Pool p' := fun k => by
    have hlt : a < (cs.length : Int) := by
      by_cases h : a < (cs.length : Int)
      · exact h
      · rw [hno h] at k; omega
    refine ⟨(cell / 2) % m, .lst [.lst (cs.map .int), .int (a + 1), .int (cell / 2 / m), .int c], ?_, (md _).1, (md _).2, cs, a + 1, cell / 2 / m, c, rfl, by omega, Int.ediv_nonneg (by omega) (by omega), hc, hc2⟩
    show rTake (1 + 1) _ = _
    rw [e]
    have tf := take_first (p := .lst [.lst (cs.map .int), .int (a + 1), .int (cell / 2), .int c]) 0 rfl (by omega) hm hm2
    simp [ask_true, dTake, ixN, h0, cMod, cDiv, cPow, hlt, hrd hlt, k, msTake, tf]
  by_cases k : 1000000000000000000 ≤ cell
  · exact top k
  · exact tail (by omega)
end DL
namespace DL
open PySem L2
/-! ### what the laws compare by -/
noncomputable def msIsInt : List Pm := [.fz]
noncomputable def dIsInt : SX :=
  (sRetF [0] (vAnd (eU (gIsi "int") (eV 0)) (eU gNot (eU (gIsi "bool") (eV 0)))))
noncomputable def gIsInt : GF := gf dIsInt msIsInt .fz 1
noncomputable def msSame : List Pm := [.fz, .fz]
noncomputable def dSame (rec : GF) : SX :=
  (sSeq (sIf (bT (eU (gIsi "tuple") (eV 1)))
  (sSeq (sIf (bOr (bNot (bT (eU (gIsi "tuple") (eV 0)))) (bT (eB gNe (eU gLen (eV 0)) (eU gLen (eV 1)))))
  (sRetF [0, 1, 2] (eC (.bl false)))
  sNil)
  (sRetF [0, 1, 2] (eU gAll (eLc (iRng gRng1 (aC (eU gLen (eV 1)) aN)) (gtN 2) (fun env => some (true, env)) (eCall msSame [.v, .v] rec (aC (eB gIx (eV 0) (eV 2)) (aC (eB gIx (eV 1) (eV 2)) aN))) [2]))))
  sNil)
  (sSeq (sIf (bT (eU (gIsi "list") (eV 1)))
  (sSeq (sIf (bOr (bNot (bT (eU (gIsi "list") (eV 0)))) (bT (eB gNe (eU gLen (eV 0)) (eU gLen (eV 1)))))
  (sRetF [0, 1, 2] (eC (.bl false)))
  sNil)
  (sRetF [0, 1, 2] (eU gAll (eLc (iRng gRng1 (aC (eU gLen (eV 1)) aN)) (gtN 2) (fun env => some (true, env)) (eCall msSame [.v, .v] rec (aC (eB gIx (eV 0) (eV 2)) (aC (eB gIx (eV 1) (eV 2)) aN))) [2]))))
  sNil)
  (sSeq (sIf (bT (eB gIsN (eV 1) (eC .non)))
  (sRetF [0, 1, 2] (eB gIsN (eV 0) (eC .non)))
  sNil)
  (sSeq (sIf (bT (eU (gIsi "bool") (eV 1)))
  (sRetF [0, 1, 2] (vAnd (eU (gIsi "bool") (eV 0)) (eB gEq (eV 0) (eV 1))))
  sNil)
  (sSeq (sIf (bT (eU (gIsi "str") (eV 1)))
  (sRetF [0, 1, 2] (vAnd (eU (gIsi "str") (eV 0)) (eB gEq (eV 0) (eV 1))))
  sNil)
  (sRetF [0, 1, 2] (vAnd (eCall msIsInt [.v] gIsInt (aC (eV 0) aN)) (eB gEq (eV 0) (eV 1)))))))))
noncomputable def rSame : Nat → GF
  | 0 => fun _ => none
  | n + 1 => gf (dSame (rSame n)) msSame .fz 3
theorem kit_NoneType_tuple : kitB "NoneType" "tuple" = some false := by decide +kernel
@[simp] theorem gIsi_tuple_non : gIsi "tuple" (.non) = some (.bl false) := by simp only [gIsi, tyD, Option.bind_some, kit_NoneType_tuple, Option.map_some]
theorem kit_bool_tuple : kitB "bool" "tuple" = some false := by decide +kernel
@[simp] theorem gIsi_tuple_bl {b : Bool} : gIsi "tuple" (.bl b) = some (.bl false) := by simp only [gIsi, tyD, Option.bind_some, kit_bool_tuple, Option.map_some]
theorem kit_int_tuple : kitB "int" "tuple" = some false := by decide +kernel
@[simp] theorem gIsi_tuple_int {i : Int} : gIsi "tuple" (.int i) = some (.bl false) := by simp only [gIsi, tyD, Option.bind_some, kit_int_tuple, Option.map_some]
theorem kit_str_tuple : kitB "str" "tuple" = some false := by decide +kernel
@[simp] theorem gIsi_tuple_str {x : Str} : gIsi "tuple" (.str x) = some (.bl false) := by simp only [gIsi, tyD, Option.bind_some, kit_str_tuple, Option.map_some]
theorem kit_tuple_tuple : kitB "tuple" "tuple" = some true := by decide +kernel
@[simp] theorem gIsi_tuple_tup {xs : List D} : gIsi "tuple" (.tup xs) = some (.bl true) := by simp only [gIsi, tyD, Option.bind_some, kit_tuple_tuple, Option.map_some]
theorem kit_list_tuple : kitB "list" "tuple" = some false := by decide +kernel
@[simp] theorem gIsi_tuple_lst {xs : List D} : gIsi "tuple" (.lst xs) = some (.bl false) := by simp only [gIsi, tyD, Option.bind_some, kit_list_tuple, Option.map_some]
theorem kit_NoneType_list : kitB "NoneType" "list" = some false := by decide +kernel
@[simp] theorem gIsi_list_non : gIsi "list" (.non) = some (.bl false) := by simp only [gIsi, tyD, Option.bind_some, kit_NoneType_list, Option.map_some]
theorem kit_bool_list : kitB "bool" "list" = some false := by decide +kernel
@[simp] theorem gIsi_list_bl {b : Bool} : gIsi "list" (.bl b) = some (.bl false) := by simp only [gIsi, tyD, Option.bind_some, kit_bool_list, Option.map_some]
theorem kit_int_list : kitB "int" "list" = some false := by decide +kernel
@[simp] theorem gIsi_list_int {i : Int} : gIsi "list" (.int i) = some (.bl false) := by simp only [gIsi, tyD, Option.bind_some, kit_int_list, Option.map_some]
theorem kit_str_list : kitB "str" "list" = some false := by decide +kernel
@[simp] theorem gIsi_list_str {x : Str} : gIsi "list" (.str x) = some (.bl false) := by simp only [gIsi, tyD, Option.bind_some, kit_str_list, Option.map_some]
theorem kit_tuple_list : kitB "tuple" "list" = some false := by decide +kernel
@[simp] theorem gIsi_list_tup {xs : List D} : gIsi "list" (.tup xs) = some (.bl false) := by simp only [gIsi, tyD, Option.bind_some, kit_tuple_list, Option.map_some]
theorem kit_list_list : kitB "list" "list" = some true := by decide +kernel
@[simp] theorem gIsi_list_lst {xs : List D} : gIsi "list" (.lst xs) = some (.bl true) := by simp only [gIsi, tyD, Option.bind_some, kit_list_list, Option.map_some]
theorem kit_NoneType_bool : kitB "NoneType" "bool" = some false := by decide +kernel
@[simp] theorem gIsi_bool_non : gIsi "bool" (.non) = some (.bl false) := by simp only [gIsi, tyD, Option.bind_some, kit_NoneType_bool, Option.map_some]
theorem kit_bool_bool : kitB "bool" "bool" = some true := by decide +kernel
@[simp] theorem gIsi_bool_bl {b : Bool} : gIsi "bool" (.bl b) = some (.bl true) := by simp only [gIsi, tyD, Option.bind_some, kit_bool_bool, Option.map_some]
theorem kit_int_bool : kitB "int" "bool" = some false := by decide +kernel
@[simp] theorem gIsi_bool_int {i : Int} : gIsi "bool" (.int i) = some (.bl false) := by simp only [gIsi, tyD, Option.bind_some, kit_int_bool, Option.map_some]
theorem kit_str_bool : kitB "str" "bool" = some false := by decide +kernel
@[simp] theorem gIsi_bool_str {x : Str} : gIsi "bool" (.str x) = some (.bl false) := by simp only [gIsi, tyD, Option.bind_some, kit_str_bool, Option.map_some]
theorem kit_tuple_bool : kitB "tuple" "bool" = some false := by decide +kernel
@[simp] theorem gIsi_bool_tup {xs : List D} : gIsi "bool" (.tup xs) = some (.bl false) := by simp only [gIsi, tyD, Option.bind_some, kit_tuple_bool, Option.map_some]
theorem kit_list_bool : kitB "list" "bool" = some false := by decide +kernel
@[simp] theorem gIsi_bool_lst {xs : List D} : gIsi "bool" (.lst xs) = some (.bl false) := by simp only [gIsi, tyD, Option.bind_some, kit_list_bool, Option.map_some]
theorem kit_NoneType_str : kitB "NoneType" "str" = some false := by decide +kernel
@[simp] theorem gIsi_str_non : gIsi "str" (.non) = some (.bl false) := by simp only [gIsi, tyD, Option.bind_some, kit_NoneType_str, Option.map_some]
theorem kit_bool_str : kitB "bool" "str" = some false := by decide +kernel
@[simp] theorem gIsi_str_bl {b : Bool} : gIsi "str" (.bl b) = some (.bl false) := by simp only [gIsi, tyD, Option.bind_some, kit_bool_str, Option.map_some]
theorem kit_int_str : kitB "int" "str" = some false := by decide +kernel
@[simp] theorem gIsi_str_int {i : Int} : gIsi "str" (.int i) = some (.bl false) := by simp only [gIsi, tyD, Option.bind_some, kit_int_str, Option.map_some]
theorem kit_str_str : kitB "str" "str" = some true := by decide +kernel
@[simp] theorem gIsi_str_str {x : Str} : gIsi "str" (.str x) = some (.bl true) := by simp only [gIsi, tyD, Option.bind_some, kit_str_str, Option.map_some]
theorem kit_tuple_str : kitB "tuple" "str" = some false := by decide +kernel
@[simp] theorem gIsi_str_tup {xs : List D} : gIsi "str" (.tup xs) = some (.bl false) := by simp only [gIsi, tyD, Option.bind_some, kit_tuple_str, Option.map_some]
theorem kit_list_str : kitB "list" "str" = some false := by decide +kernel
@[simp] theorem gIsi_str_lst {xs : List D} : gIsi "str" (.lst xs) = some (.bl false) := by simp only [gIsi, tyD, Option.bind_some, kit_list_str, Option.map_some]
theorem kit_NoneType_int : kitB "NoneType" "int" = some false := by decide +kernel
@[simp] theorem gIsi_int_non : gIsi "int" (.non) = some (.bl false) := by simp only [gIsi, tyD, Option.bind_some, kit_NoneType_int, Option.map_some]
theorem kit_bool_int : kitB "bool" "int" = some true := by decide +kernel
@[simp] theorem gIsi_int_bl {b : Bool} : gIsi "int" (.bl b) = some (.bl true) := by simp only [gIsi, tyD, Option.bind_some, kit_bool_int, Option.map_some]
theorem kit_int_int : kitB "int" "int" = some true := by decide +kernel
@[simp] theorem gIsi_int_int {i : Int} : gIsi "int" (.int i) = some (.bl true) := by simp only [gIsi, tyD, Option.bind_some, kit_int_int, Option.map_some]
theorem kit_str_int : kitB "str" "int" = some false := by decide +kernel
@[simp] theorem gIsi_int_str {x : Str} : gIsi "int" (.str x) = some (.bl false) := by simp only [gIsi, tyD, Option.bind_some, kit_str_int, Option.map_some]
theorem kit_tuple_int : kitB "tuple" "int" = some false := by decide +kernel
@[simp] theorem gIsi_int_tup {xs : List D} : gIsi "int" (.tup xs) = some (.bl false) := by simp only [gIsi, tyD, Option.bind_some, kit_tuple_int, Option.map_some]
theorem kit_list_int : kitB "list" "int" = some false := by decide +kernel
@[simp] theorem gIsi_int_lst {xs : List D} : gIsi "int" (.lst xs) = some (.bl false) := by simp only [gIsi, tyD, Option.bind_some, kit_list_int, Option.map_some]
/-- data of ints, bools, None, lists and tuples, at most so deep -/
noncomputable def plainD : Nat → D → Bool
  | _, .non => true
  | _, .bl _ => true
  | _, .int _ => true
  | n + 1, .tup xs => decide (xs.length ≤ 16777216) && xs.all (plainD n)
  | n + 1, .lst xs => decide (xs.length ≤ 16777216) && xs.all (plainD n)
  | _, _ => false
theorem rng_mem {n : Nat} {d : D} (h : d ∈ rngD 0 n) : ∃ k : Nat, k < n ∧ d = .int k := by
  unfold rngD at h
  obtain ⟨k, hk, rfl⟩ := List.mem_map.mp h
  refine ⟨k, ?_, by rw [Int.zero_add]⟩
  have := List.mem_range.mp hk
  omega
theorem rng_len {n : Nat} : (rngD 0 n).length = n := by simp [rngD]
theorem bls_true : ∀ {ds : List D}, (∀ d ∈ ds, d = .bl true) → ∃ bs, bls ds = some bs ∧ bs.all id = true
  | [], _ => ⟨[], rfl, rfl⟩
  | d :: ds, h => by
    have := h d List.mem_cons_self
    subst this
    obtain ⟨bs, e1, e2⟩ := bls_true fun d hd => h d (List.mem_cons_of_mem _ hd)
    exact ⟨true :: bs, by simp [bls, e1], by simp [e2]⟩
theorem same_ap (n : Nat) (x y : D) : rSame (n + 1) [x, y] = (dSame (rSame n) [some x, some y, none]).bind (fin msSame .fz) := gf_ap
theorem isInt_ap (x : D) : gIsInt [x] = (dIsInt [some x]).bind (fin msIsInt .fz) := gf_ap
@[simp] theorem isInt_int (i : Int) : gIsInt [.int i] = some (.bl true, [none]) := by
  rw [isInt_ap]
  simp [dIsInt, msIsInt]
theorem gEq_bl {i j : Bool} : gEq (.bl i) (.bl j) = some (.bl (i == j)) := by
  have h : ∀ b : Bool, SeqAt.shaped (.bool b) = true := fun b => by simp [SeqAt.shaped, PyData.canLay, PyData.canLay0, PyData.depth]
  simp only [gEq, py, Option.bind_some, h, and_self, if_true]
  rfl
theorem same_flat (n : Nat) (x : D) (h : x = .non ∨ (∃ b, x = .bl b) ∨ ∃ i, x = .int i) : rSame (n + 1) [x, x] = some (.bl true, [none, none]) := by
  rw [same_ap]
  rcases h with rfl | ⟨b, rfl⟩ | ⟨i, rfl⟩
  · simp [dSame, msSame]
  · simp [dSame, msSame, gEq_bl]
  · simp [dSame, msSame, msIsInt, gEq_int]
theorem same_items {n : Nat} {xs : List D} {x : D} (hx : x = .tup xs ∨ x = .lst xs) (ih : ∀ y ∈ xs, rSame n [y, y] = some (.bl true, [none, none])) (hl : xs.length ≤ 16777216) : ∃ ys, compL (gtN 2) (fun env => some (true, env)) (eCall msSame [.v, .v] (rSame n) (aC (eB gIx (eV 0) (eV 2)) (aC (eB gIx (eV 1) (eV 2)) aN))) [2] (rngD 0 xs.length) [] [some x, some x, none] = some (ys, [some x, some x, none]) ∧ ∃ bs, bls ys = some bs ∧ bs.all id = true := by
  refine ⟨_, compL_map (f := fun _ => some (.bl true)) _ _ (fun d hd => ?_) (by rw [rng_len, List.length_nil]; omega), bls_true fun d hd => ?_⟩
  · obtain ⟨k, hk, rfl⟩ := rng_mem hd
    have e : atI xs (k : Int) = some xs[k] := by rw [atI_nat, List.getElem?_eq_getElem hk]
    refine ⟨_, true, _, rfl, rfl, fun _ => ⟨.bl true, [some x, some x, some (.int k)], ?_, rfl, rfl⟩, fun h => by cases h⟩
    rcases hx with rfl | rfl <;> simp [e, ih _ (List.getElem_mem hk), msSame]
  · rw [List.nil_append] at hd
    obtain ⟨a, _, h⟩ := List.mem_filterMap.mp hd
    exact (Option.some.inj h).symm
theorem near_len {n : Nat} (h : n ≤ 16777216) : near (n : Int) = true := near_of (by omega) (by omega)
theorem same_tup {n : Nat} {xs : List D} (hl : xs.length ≤ 16777216) (ih : ∀ y ∈ xs, rSame (n + 1) [y, y] = some (.bl true, [none, none])) : rSame (n + 2) [.tup xs, .tup xs] = some (.bl true, [none, none]) := by
  obtain ⟨ys, e, bs, e2, e3⟩ := same_items (n := n + 1) (x := .tup xs) (.inl rfl) ih hl
  rw [same_ap]
  simp [dSame, gNe_int, near_len hl, e, e2, e3]
  simp [msSame]
theorem same_lst {n : Nat} {xs : List D} (hl : xs.length ≤ 16777216) (ih : ∀ y ∈ xs, rSame (n + 1) [y, y] = some (.bl true, [none, none])) : rSame (n + 2) [.lst xs, .lst xs] = some (.bl true, [none, none]) := by
  obtain ⟨ys, e, bs, e2, e3⟩ := same_items (n := n + 1) (x := .lst xs) (.inr rfl) ih hl
  rw [same_ap]
  simp [dSame, gNe_int, near_len hl, e, e2, e3]
  simp [msSame]
theorem same_refl : ∀ (n : Nat) (x : D), plainD n x = true → rSame (n + 1) [x, x] = some (.bl true, [none, none]) := by
  intro n
  induction n with
  | zero =>
    intro x h
    cases x with
    | non => exact same_flat _ _ (.inl rfl)
    | bl b => exact same_flat _ _ (.inr (.inl ⟨b, rfl⟩))
    | int i => exact same_flat _ _ (.inr (.inr ⟨i, rfl⟩))
    | _ => cases h
  | succ n ih =>
    intro x h
    cases x with
    | non => exact same_flat _ _ (.inl rfl)
    | bl b => exact same_flat _ _ (.inr (.inl ⟨b, rfl⟩))
    | int i => exact same_flat _ _ (.inr (.inr ⟨i, rfl⟩))
    | tup xs =>
      simp only [plainD, Bool.and_eq_true, decide_eq_true_eq, List.all_eq_true] at h
      exact same_tup h.1 fun y hy => ih y (h.2 y hy)
    | lst xs =>
      simp only [plainD, Bool.and_eq_true, decide_eq_true_eq, List.all_eq_true] at h
      exact same_lst h.1 fun y hy => ih y (h.2 y hy)
    | _ => cases h
end DL
namespace DL
open PySem L2
/-- a loop that never leaves -/
theorem forL_inv {set : GX} {body : SX} {m : List Nat} (P : List D → En → Prop) (h : ∀ d ds e, P (d :: ds) e → ∃ e1 e2, set d e = some e1 ∧ (body e1 = some (.nx e2) ∨ body e1 = some (.ct e2)) ∧ P ds (fgE m e2)) :
    ∀ (ds : List D) (e : En), P ds e → ∃ e', forL set body m ds e = some (.nx e') ∧ P [] e'
  | [], e, p => ⟨e, rfl, p⟩
  | d :: ds, e, p => by
    obtain ⟨e1, e2, a, b, c⟩ := h d ds e p
    obtain ⟨e', q1, q2⟩ := forL_inv P h ds (fgE m e2) c
    refine ⟨e', ?_, q2⟩
    rw [forL_cons, a, Option.bind_some]
    rcases b with b | b <;> rw [b, Option.bind_some] <;> exact q1
/-- a loop that may return -/
theorem forL_ret {set : GX} {body : SX} {m : List Nat} (P : List D → En → Prop) (R : D → En → Prop) (h : ∀ d ds e, P (d :: ds) e → ∃ e1, set d e = some e1 ∧ ((∃ e2, (body e1 = some (.nx e2) ∨ body e1 = some (.ct e2)) ∧ P ds (fgE m e2)) ∨ ∃ x e2, body e1 = some (.rt x e2) ∧ R x e2)) :
    ∀ (ds : List D) (e : En), P ds e → (∃ e', forL set body m ds e = some (.nx e') ∧ P [] e') ∨ ∃ x e', forL set body m ds e = some (.rt x e') ∧ R x e'
  | [], e, p => .inl ⟨e, rfl, p⟩
  | d :: ds, e, p => by
    obtain ⟨e1, a, b⟩ := h d ds e p
    rw [forL_cons, a, Option.bind_some]
    rcases b with ⟨e2, b, c⟩ | ⟨x, e2, b, c⟩
    · have ih := forL_ret P R h ds (fgE m e2) c
      rcases b with b | b <;> rw [b, Option.bind_some] <;> exact ih
    · rw [b, Option.bind_some]
      exact .inr ⟨x, e2, rfl, c⟩
/-- a while by a measure -/
theorem while_inv {c : BX} {body : SX} {m : List Nat} (P : Nat → En → Prop) (R : En → Prop) (h : ∀ n e, P n e → ∃ x e1, c e = some (x, e1) ∧ (x = true → ∃ e2, (body e1 = some (.nx e2) ∨ body e1 = some (.ct e2)) ∧ ∃ k, k < n ∧ P k (fgE m e2)) ∧ (x = false → R (fgE m e1))) :
    ∀ (n : Nat) (e : En), P n e → ∃ e', sWhile c body m e = some (.nx e') ∧ R e' := by
  have core : ∀ (n : Nat) (e : En), P n e → ∃ k e', whileN c body m k e = some (.nx e') ∧ R e' := by
    intro n
    induction n using Nat.strongRecOn with
    | _ n ih =>
      intro e p
      obtain ⟨x, e1, a, b1, b2⟩ := h n e p
      cases x with
      | true =>
        obtain ⟨e2, b, k, hk, q⟩ := b1 rfl
        obtain ⟨j, e', q1, q2⟩ := ih k hk _ q
        refine ⟨j + 1, e', ?_, q2⟩
        rw [whileN]
        simp only [a, Option.bind_some, if_true]
        rcases b with b | b <;> rw [b] <;> exact q1
      | false =>
        refine ⟨1, fgE m e1, ?_, b2 rfl⟩
        rw [whileN]
        simp [a]
  intro n e p
  obtain ⟨k, e', q1, q2⟩ := core n e p
  exact ⟨e', sWhile_of q1, q2⟩
theorem enumD_cons {n : Nat} {d : D} {ds : List D} : enumD n (d :: ds) = .raw [.int n, d] :: enumD (n + 1) ds := rfl
theorem enumD_nil {n : Nat} : enumD n [] = [] := rfl
theorem rng_nil {a b : Int} (h : b ≤ a) : rngD a b = [] := by
  unfold rngD
  rw [show (b - a).toNat = 0 by omega]; rfl
theorem rng_cons {a b : Int} (h : a < b) : rngD a b = .int a :: rngD (a + 1) b := by
  unfold rngD
  rw [show (b - a).toNat = (b - (a + 1)).toNat + 1 by omega, List.range_succ_eq_map, List.map_cons, List.map_map]
  refine congr (congrArg _ ?_) ?_
  · simp
  · refine List.map_congr_left fun k _ => ?_
    simp only [Function.comp, D.int.injEq]
    omega
theorem rng_ints {n : Nat} : rngD 0 n = (List.range n).map fun k : Nat => .int k := by
  unfold rngD
  rw [show ((n : Int) - 0).toNat = n by omega]
  exact List.map_congr_left fun k _ => by rw [Int.zero_add]
theorem atI_map {α : Type} {f : α → D} {xs : List α} {k : Nat} {x : α} (h : xs[k]? = some x) : atI (xs.map f) (k : Int) = some (f x) := by
  rw [atI_nat, List.getElem?_map, h]; rfl
/-- a comprehension over a list of known items -/
theorem compL_of {α : Type} {set : GX} {cond : BX} {elt : EX} {vs : List Nat} {e : En} (enc : α → D) (keep : α → Bool) (out : α → D) : ∀ (xs : List α) (acc : List D), (∀ x ∈ xs, ∃ e1 e2, set (enc x) e = some e1 ∧ cond e1 = some (keep x, e2) ∧ (keep x = true → ∃ e3, elt e2 = some (out x, e3) ∧ fgE vs e3 = e) ∧ (keep x = false → fgE vs e2 = e)) →
    acc.length + xs.length ≤ 16777216 → compL set cond elt vs (xs.map enc) acc e = some (acc ++ (xs.filter keep).map out, e)
  | [], acc, _, _ => by rw [List.map_nil, compL]; simp
  | x :: xs, acc, h, hb => by
    obtain ⟨e1, e2, a, b, k1, k2⟩ := h x List.mem_cons_self
    rw [List.map_cons, compL, a, Option.bind_some, b, Option.bind_some]
    rw [List.length_cons] at hb
    cases hk : keep x with
    | true =>
      obtain ⟨e3, k3, k4⟩ := k1 hk
      simp only [if_true]
      rw [k3, Option.bind_some, big_of (by omega), k4]
      simp only [Bool.false_eq_true, if_false]
      rw [compL_of enc keep out xs _ (fun d hd => h d (List.mem_cons_of_mem _ hd)) (by rw [List.length_append, List.length_singleton]; omega), List.filter_cons, hk]
      simp
    | false =>
      simp only [Bool.false_eq_true, if_false]
      rw [k2 hk, compL_of enc keep out xs acc (fun d hd => h d (List.mem_cons_of_mem _ hd)) (by omega), List.filter_cons, hk]
      simp
/-- the same without a test -/
theorem compL_all {α : Type} {set : GX} {elt : EX} {vs : List Nat} {e : En} (enc : α → D) (out : α → D) (xs : List α) (h : ∀ x ∈ xs, ∃ e1 e3, set (enc x) e = some e1 ∧ elt e1 = some (out x, e3) ∧ fgE vs e3 = e) (hb : xs.length ≤ 16777216) :
    compL set (fun env => some (true, env)) elt vs (xs.map enc) [] e = some (xs.map out, e) := by
  rw [compL_of enc (fun _ => true) out xs [] (fun x hx => ?_) (by rw [List.length_nil]; omega)]
  · rw [List.nil_append, List.filter_eq_self.mpr fun _ _ => rfl]
  · obtain ⟨e1, e3, a, b, c⟩ := h x hx
    exact ⟨e1, e1, a, rfl, fun _ => ⟨e3, b, c⟩, fun h => by cases h⟩
end DL
namespace Lk14
open PySem L2 DL
def ms_is_sharing : List Pm := [.fz, .fz]
noncomputable def d_is_sharing : SX :=
  (sRetF [0, 1] (vAnd (eB (gC fun i j => decide (i < j)) (eB gIx (eV 0) (eC (.int 0))) (eB gAdd (eB gIx (eV 1) (eC (.int 0))) (eB gIx (eV 1) (eC (.int 1))))) (eB (gC fun i j => decide (i < j)) (eB gIx (eV 1) (eC (.int 0))) (eB gAdd (eB gIx (eV 0) (eC (.int 0))) (eB gIx (eV 0) (eC (.int 1)))))))
noncomputable def g_is_sharing : GF := gf d_is_sharing ms_is_sharing .fz 2
theorem ap_is_sharing (a0 a1 : D) : g_is_sharing [a0, a1] = (d_is_sharing [some a0, some a1]).bind (fin ms_is_sharing .fz) := gf_ap
def ms_starts : List Pm := [.fz]
noncomputable def b_starts_1 : SX :=
  (sIf (bT (eCall ms_is_sharing [.v, .v] g_is_sharing (aC (eB gIx (eV 0) (eV 5)) (aC (eV 3) aN))))
  (sSet 4 (eA gMax2 (aC (eV 4) (aC (eB gAdd (eIxO 1 (eV 5)) (eB gIx (eB gIx (eV 0) (eV 5)) (eC (.int 3)))) aN))))
  sNil)
noncomputable def b_starts_2 : SX :=
  (sSeq (sSet 4 (eB gIx (eV 3) (eC (.int 2))))
  (sSeq (sFor (iRng gRng1 (aC (eV 2) aN)) (gtN 5) b_starts_1 [5])
  (sDrop (eMut 1 gAppend (aC (eV 4) aN)))))
noncomputable def d_starts : SX :=
  (sSeq (sSet 1 (eA gLst aN))
  (sSeq (sFor (iEn (eV 0)) (gtTup 2 (gtCons (gtN 2) (gtCons (gtN 3) gtNil))) b_starts_2 [2, 3, 4, 5])
  (sRetF [0, 1, 2, 3, 4, 5] (eU gTuple (eV 1)))))
noncomputable def g_starts : GF := gf d_starts ms_starts .fz 6
theorem ap_starts (a0 : D) : g_starts [a0] = (d_starts [some a0, none, none, none, none, none]).bind (fin ms_starts .fz) := gf_ap
def ms_is_overlapping : List Pm := [.fz, .fz, .fz, .fz]
noncomputable def d_is_overlapping : SX :=
  (sSeq (sIf (bNot (bT (eCall ms_is_sharing [.v, .v] g_is_sharing (aC (eB gIx (eV 0) (eV 2)) (aC (eB gIx (eV 0) (eV 3)) aN)))))
  (sRetF [0, 1, 2, 3] (eC (.bl false)))
  sNil)
  (sRetF [0, 1, 2, 3] (vAnd (eB (gC fun i j => decide (i < j)) (eB gIx (eV 1) (eV 2)) (eB gAdd (eB gIx (eV 1) (eV 3)) (eB gIx (eB gIx (eV 0) (eV 3)) (eC (.int 3))))) (eB (gC fun i j => decide (i < j)) (eB gIx (eV 1) (eV 3)) (eB gAdd (eB gIx (eV 1) (eV 2)) (eB gIx (eB gIx (eV 0) (eV 2)) (eC (.int 3))))))))
noncomputable def g_is_overlapping : GF := gf d_is_overlapping ms_is_overlapping .fz 4
theorem ap_is_overlapping (a0 a1 a2 a3 : D) : g_is_overlapping [a0, a1, a2, a3] = (d_is_overlapping [some a0, some a1, some a2, some a3]).bind (fin ms_is_overlapping .fz) := gf_ap
def ms_conflicts : List Pm := [.fz, .fz]
noncomputable def k_conflicts_1 : BX :=
  (bT (eB (gC fun i j => decide (i < j)) (eB gIx (eV 1) (eV 6)) (eB gIx (eV 7) (eC (.int 2)))))
noncomputable def x_conflicts_1 : EX :=
  (eV 6)
noncomputable def b_conflicts_1 : SX :=
  (sIf (bT (eCall ms_is_overlapping [.v, .v, .v, .v] g_is_overlapping (aC (eV 0) (aC (eV 1) (aC (eV 4) (aC (eV 5) aN))))))
  (sDrop (eMut 3 gAppend (aC (eA gTup (aC (eV 4) (aC (eV 5) aN))) aN)))
  sNil)
noncomputable def b_conflicts_2 : SX :=
  (sFor (iRng gRng2 (aC (eB gAdd (eV 4) (eC (.int 1))) (aC (eU gLen (eV 0)) aN))) (gtN 5) b_conflicts_1 [5])
noncomputable def d_conflicts : SX :=
  (sSeq (sSet 2 (eLc (iEn (eV 0)) (gtTup 2 (gtCons (gtN 6) (gtCons (gtN 7) gtNil))) k_conflicts_1 x_conflicts_1 [6, 7]))
  (sSeq (sSet 3 (eA gLst aN))
  (sSeq (sFor (iRng gRng1 (aC (eU gLen (eV 0)) aN)) (gtN 4) b_conflicts_2 [4, 5])
  (sRetF [0, 1, 2, 3, 4, 5, 6, 7] (eA gTup (aC (eU gTuple (eV 2)) (aC (eU gTuple (eV 3)) aN)))))))
noncomputable def g_conflicts : GF := gf d_conflicts ms_conflicts .fz 8
theorem ap_conflicts (a0 a1 : D) : g_conflicts [a0, a1] = (d_conflicts [some a0, some a1, none, none, none, none, none, none]).bind (fin ms_conflicts .fz) := gf_ap
def ms_check_plan : List Pm := [.fz, .fz]
noncomputable def d_check_plan : SX :=
  (sSeq (sAsg (gtTup 2 (gtCons (gtN 2) (gtCons (gtN 3) gtNil))) (eCall ms_conflicts [.v, .v] g_conflicts (aC (eV 0) (aC (eV 1) aN))))
  (sSeq (sIf (bTr (eV 2))
  (fun _ => none)
  sNil)
  (sIf (bTr (eV 3))
  (fun _ => none)
  sNil)))
noncomputable def g_check_plan : GF := gf d_check_plan ms_check_plan .fz 4
theorem ap_check_plan (a0 a1 : D) : g_check_plan [a0, a1] = (d_check_plan [some a0, some a1, none, none]).bind (fin ms_check_plan .fz) := gf_ap
def ms_waiting : List Pm := [.fz, .fz]
noncomputable def x_waiting_1 : EX :=
  (eB (gI fun i j => i - j) (eB gIx (eV 1) (eV 2)) (eB gIx (eV 3) (eC (.int 2))))
noncomputable def d_waiting : SX :=
  (sSeq (sDrop (eCall ms_check_plan [.v, .v] g_check_plan (aC (eV 0) (aC (eV 1) aN))))
  (sRetF [0, 1, 2, 3] (eU gSum (eLc (iEn (eV 0)) (gtTup 2 (gtCons (gtN 2) (gtCons (gtN 3) gtNil))) (fun env => some (true, env)) x_waiting_1 [2, 3]))))
noncomputable def g_waiting : GF := gf d_waiting ms_waiting .fz 4
theorem ap_waiting (a0 a1 : D) : g_waiting [a0, a1] = (d_waiting [some a0, some a1, none, none]).bind (fin ms_waiting .fz) := gf_ap
def ms_best_order : List Pm := [.fz]
noncomputable def k_best_order_1 : BX :=
  (bT (eB (gIn true) (eV 7) (eV 3)))
noncomputable def x_best_order_1 : EX :=
  (eV 7)
noncomputable def x_best_order_2 : EX :=
  (eB gAdd (eV 3) (eA gTup (aC (eV 7) aN)))
noncomputable def x_best_order_3 : EX :=
  (eB gIx (eV 0) (eV 7))
noncomputable def x_best_order_4 : EX :=
  (eB gIx (eV 8) (eC (.int 2)))
noncomputable def b_best_order_1 : SX :=
  (sSeq (sSet 3 (eMut 2 gPop aN))
  (sSeq (sSet 4 (eLc (iRng gRng1 (aC (eU gLen (eV 0)) aN)) (gtN 7) k_best_order_1 x_best_order_1 [7]))
  (sIf (bTr (eV 4))
  (sDrop (eMut 2 gExtend (aC (eLc (iSeq (eU gRev (eV 4))) (gtN 7) (fun env => some (true, env)) x_best_order_2 [7]) aN)))
  (sSeq (sSet 5 (eCall ms_starts [.v] g_starts (aC (eLc (iSeq (eV 3)) (gtN 7) (fun env => some (true, env)) x_best_order_3 [7]) aN)))
  (sSeq (sSet 6 (eB (gI fun i j => i - j) (eU gSum (eV 5)) (eU gSum (eLc (iSeq (eV 0)) (gtN 8) (fun env => some (true, env)) x_best_order_4 [8]))))
  (sIf (bOr (bT (eB gIsN (eV 1) (eC .non))) (bT (eB (gC fun i j => decide (i < j)) (eV 6) (eB gIx (eV 1) (eC (.int 1))))))
  (sSet 1 (eA gTup (aC (eV 3) (aC (eV 6) aN))))
  sNil))))))
noncomputable def d_best_order : SX :=
  (sSeq (sSet 1 (eC .non))
  (sSeq (sSet 2 (eA gLst (aC (eA gTup aN) aN)))
  (sSeq (sWhile (bTr (eV 2)) b_best_order_1 [3, 4, 5, 6])
  (sRetF [0, 1, 2, 3, 4, 5, 6, 7, 8] (eV 1)))))
noncomputable def g_best_order : GF := gf d_best_order ms_best_order .fz 9
theorem ap_best_order (a0 : D) : g_best_order [a0] = (d_best_order [some a0, none, none, none, none, none, none, none, none]).bind (fin ms_best_order .fz) := gf_ap
def ms__law_pool : List Pm := [.br]
noncomputable def x__law_pool_1 : EX :=
  (eIf (bT (eB (gC fun i j => decide (j ≤ i)) (eV 1) (eC (.int 0)))) (eB (gIf cMul fun i j => i * j) (eC (.int 2)) (eV 1)) (eB (gI fun i j => i - j) (eB (gIf cMul fun i j => i * j) (eU gNeg (eC (.int 2))) (eV 1)) (eC (.int 1))))
noncomputable def d__law_pool : SX :=
  (sRetF [0, 1] (eA gLst (aC (eLc (iBr 0) (gtN 1) (fun env => some (true, env)) x__law_pool_1 [1]) (aC (eC (.int 0)) (aC (eC (.int 0)) (aC (eC (.int 17)) aN))))))
noncomputable def g__law_pool : GF := gf d__law_pool ms__law_pool (.ls .fz) 2
theorem ap__law_pool (a0 : D) : g__law_pool [a0] = (d__law_pool [some a0, none]).bind (fin ms__law_pool (.ls .fz)) := gf_ap
def ms__law_take : List Pm := [.mt (.ls .fz), .fz]
noncomputable def d__law_take (rec : GF) : SX :=
  (sSeq (sIf (bT (eB (gC fun i j => decide (j < i)) (eIxO 0 (eC (.int 2))) (eC (.int 0))))
  (sSeq (sSet 2 (eB (gIf cMod fun i j => i % j) (eA gInt (aC (eIxO 0 (eC (.int 2))) aN)) (eV 1)))
  (sSeq (sAsg (gtI 0 (eC (.int 2))) (eB (gIf cDiv fun i j => i / j) (eIxO 0 (eC (.int 2))) (eV 1)))
  (sRetF [1, 2, 3, 4] (eV 2))))
  sNil)
  (sSeq (sSet 3 (eC (.int 0)))
  (sSeq (sIf (bT (eB (gC fun i j => decide (i < j)) (eIxO 0 (eC (.int 1))) (eU gLen (eIxO 0 (eC (.int 0))))))
  (sSet 3 (eB gIx (eIxO 0 (eC (.int 0))) (eIxO 0 (eC (.int 1)))))
  sNil)
  (sSeq (sAsg (gtI 0 (eC (.int 1))) (eB gAdd (eIxO 0 (eC (.int 1))) (eC (.int 1))))
  (sSeq (sIf (bT (eB (gC fun i j => decide (j ≤ i)) (eV 3) (eB (gIf cPow fun i j => i ^ j.toNat) (eC (.int 10)) (eC (.int 18)))))
  (sSeq (sAsg (gtI 0 (eC (.int 2))) (eB (gIf cDiv fun i j => i / j) (eV 3) (eC (.int 2))))
  (sRetF [1, 2, 3, 4] (eCall ms__law_take [.s 0, .v] rec (aS 0 (aC (eV 1) aN)))))
  sNil)
  (sSeq (sAsg (gtI 0 (eC (.int 3))) (eB (gIf cMod fun i j => i % j) (eA gInt (aC (eB gAdd (eB gAdd (eB (gIf cMul fun i j => i * j) (eIxO 0 (eC (.int 3))) (eC (.int 48271))) (eB (gIf cMul fun i j => i * j) (eV 3) (eC (.int 69621)))) (eB (gIf cMul fun i j => i * j) (eIxO 0 (eC (.int 1))) (eC (.int 613)))) aN)) (eC (.int 2147483647))))
  (sSeq (sSet 4 (eB (gIf cMod fun i j => i % j) (eA gInt (aC (eB gAdd (eB gAdd (eB (gIf cMul fun i j => i * j) (eIxO 0 (eC (.int 3))) (eIxO 0 (eC (.int 3)))) (eB (gIf cMul fun i j => i * j) (eIxO 0 (eC (.int 3))) (eC (.int 7919)))) (eC (.int 104729))) aN)) (eC (.int 1000000007))))
  (sRetF [1, 2, 3, 4] (eB (gIf cMod fun i j => i % j) (eA gInt (aC (eB (gIf cDiv fun i j => i / j) (eV 4) (eC (.int 3))) aN)) (eV 1))))))))))
noncomputable def r__law_take : Nat → GF
  | 0 => fun _ => none
  | n + 1 => gf (d__law_take (r__law_take n)) ms__law_take .fz 5
noncomputable def g__law_take : GF := r__law_take 2
theorem ap__law_take (n : Nat) (a0 a1 : D) : r__law_take (n + 1) [a0, a1] = (d__law_take (r__law_take n) [some a0, some a1, none, none, none]).bind (fin ms__law_take .fz) := gf_ap
def ms__law_is_integer : List Pm := [.fz]
noncomputable def d__law_is_integer : SX :=
  (sRetF [0] (vAnd (eU (gIsi "int") (eV 0)) (eU gNot (eU (gIsi "bool") (eV 0)))))
noncomputable def g__law_is_integer : GF := gf d__law_is_integer ms__law_is_integer .fz 1
theorem ap__law_is_integer (a0 : D) : g__law_is_integer [a0] = (d__law_is_integer [some a0]).bind (fin ms__law_is_integer .fz) := gf_ap
def ms__law_same : List Pm := [.fz, .fz]
noncomputable def x__law_same_1 (rec : GF) : EX :=
  (eCall ms__law_same [.v, .v] rec (aC (eB gIx (eV 0) (eV 2)) (aC (eB gIx (eV 1) (eV 2)) aN)))
noncomputable def x__law_same_2 (rec : GF) : EX :=
  (eCall ms__law_same [.v, .v] rec (aC (eB gIx (eV 0) (eV 2)) (aC (eB gIx (eV 1) (eV 2)) aN)))
noncomputable def d__law_same (rec : GF) : SX :=
  (sSeq (sIf (bT (eU (gIsi "tuple") (eV 1)))
  (sSeq (sIf (bOr (bNot (bT (eU (gIsi "tuple") (eV 0)))) (bT (eB gNe (eU gLen (eV 0)) (eU gLen (eV 1)))))
  (sRetF [0, 1, 2] (eC (.bl false)))
  sNil)
  (sRetF [0, 1, 2] (eU gAll (eLc (iRng gRng1 (aC (eU gLen (eV 1)) aN)) (gtN 2) (fun env => some (true, env)) (x__law_same_1 rec) [2]))))
  sNil)
  (sSeq (sIf (bT (eU (gIsi "list") (eV 1)))
  (sSeq (sIf (bOr (bNot (bT (eU (gIsi "list") (eV 0)))) (bT (eB gNe (eU gLen (eV 0)) (eU gLen (eV 1)))))
  (sRetF [0, 1, 2] (eC (.bl false)))
  sNil)
  (sRetF [0, 1, 2] (eU gAll (eLc (iRng gRng1 (aC (eU gLen (eV 1)) aN)) (gtN 2) (fun env => some (true, env)) (x__law_same_2 rec) [2]))))
  sNil)
  (sSeq (sIf (bT (eB gIsN (eV 1) (eC .non)))
  (sRetF [0, 1, 2] (eB gIsN (eV 0) (eC .non)))
  sNil)
  (sSeq (sIf (bT (eU (gIsi "bool") (eV 1)))
  (sRetF [0, 1, 2] (vAnd (eU (gIsi "bool") (eV 0)) (eB gEq (eV 0) (eV 1))))
  sNil)
  (sSeq (sIf (bT (eU (gIsi "str") (eV 1)))
  (sRetF [0, 1, 2] (vAnd (eU (gIsi "str") (eV 0)) (eB gEq (eV 0) (eV 1))))
  sNil)
  (sRetF [0, 1, 2] (vAnd (eCall ms__law_is_integer [.v] g__law_is_integer (aC (eV 0) aN)) (eB gEq (eV 0) (eV 1)))))))))
noncomputable def r__law_same : Nat → GF
  | 0 => fun _ => none
  | n + 1 => gf (d__law_same (r__law_same n)) ms__law_same .fz 3
noncomputable def g__law_same : GF := r__law_same 8
theorem ap__law_same (n : Nat) (a0 a1 : D) : r__law_same (n + 1) [a0, a1] = (d__law_same (r__law_same n) [some a0, some a1, none]).bind (fin ms__law_same .fz) := gf_ap
def ms__law_ships : List Pm := [.mt (.ls .fz), .fz, .fz]
noncomputable def b__law_ships_1 : SX :=
  (sSeq (sSet 5 (eCall ms__law_take [.s 0, .v] g__law_take (aS 0 (aC (eV 1) aN))))
  (sSeq (sSet 6 (eB gAdd (eC (.int 1)) (eCall ms__law_take [.s 0, .v] g__law_take (aS 0 (aC (eB (gI fun i j => i - j) (eV 1) (eV 5)) aN)))))
  (sDrop (eMut 3 gAppend (aC (eA gTup (aC (eV 5) (aC (eV 6) (aC (eCall ms__law_take [.s 0, .v] g__law_take (aS 0 (aC (eB gIx (eA gTup (aC (eC (.int 4)) (aC (eC (.int 25)) (aC (eC (.int 1000)) aN)))) (eCall ms__law_take [.s 0, .v] g__law_take (aS 0 (aC (eC (.int 3)) aN)))) aN))) (aC (eB gAdd (eC (.int 1)) (eCall ms__law_take [.s 0, .v] g__law_take (aS 0 (aC (eC (.int 12)) aN)))) aN))))) aN)))))
noncomputable def d__law_ships : SX :=
  (sSeq (sSet 3 (eA gLst aN))
  (sSeq (sFor (iRng gRng1 (aC (eCall ms__law_take [.s 0, .v] g__law_take (aS 0 (aC (eB gAdd (eV 2) (eC (.int 1))) aN))) aN)) (gtN 4) b__law_ships_1 [4, 5, 6])
  (sRetF [1, 2, 3, 4, 5, 6] (eV 3))))
noncomputable def g__law_ships : GF := gf d__law_ships ms__law_ships .fz 7
theorem ap__law_ships (a0 a1 a2 : D) : g__law_ships [a0, a1, a2] = (d__law_ships [some a0, some a1, some a2, none, none, none, none]).bind (fin ms__law_ships .fz) := gf_ap
def ms__law_shares : List Pm := [.fz, .fz]
noncomputable def d__law_shares : SX :=
  (sRetF [0, 1] (eB (gC fun i j => decide (i < j)) (eA gMax2 (aC (eB gIx (eV 0) (eC (.int 0))) (aC (eB gIx (eV 1) (eC (.int 0))) aN))) (eA gMin2 (aC (eB gAdd (eB gIx (eV 0) (eC (.int 0))) (eB gIx (eV 0) (eC (.int 1)))) (aC (eB gAdd (eB gIx (eV 1) (eC (.int 0))) (eB gIx (eV 1) (eC (.int 1)))) aN)))))
noncomputable def g__law_shares : GF := gf d__law_shares ms__law_shares .fz 2
theorem ap__law_shares (a0 a1 : D) : g__law_shares [a0, a1] = (d__law_shares [some a0, some a1]).bind (fin ms__law_shares .fz) := gf_ap
def ms__law_starts : List Pm := [.fz]
noncomputable def k__law_starts_1 : BX :=
  (bT (eCall ms__law_shares [.v, .v] g__law_shares (aC (eB gIx (eV 0) (eV 4)) (aC (eB gIx (eV 0) (eV 2)) aN))))
noncomputable def x__law_starts_1 : EX :=
  (eB gAdd (eIxO 1 (eV 4)) (eB gIx (eB gIx (eV 0) (eV 4)) (eC (.int 3))))
noncomputable def b__law_starts_1 : SX :=
  (sSeq (sSet 3 (eLc (iRng gRng1 (aC (eV 2) aN)) (gtN 4) k__law_starts_1 x__law_starts_1 [4]))
  (sDrop (eMut 1 gAppend (aC (eU gMax (eB gCat (eA gLst (aC (eB gIx (eB gIx (eV 0) (eV 2)) (eC (.int 2))) aN)) (eV 3))) aN))))
noncomputable def d__law_starts : SX :=
  (sSeq (sSet 1 (eA gLst aN))
  (sSeq (sFor (iRng gRng1 (aC (eU gLen (eV 0)) aN)) (gtN 2) b__law_starts_1 [2, 3])
  (sRetF [0, 1, 2, 3, 4] (eV 1))))
noncomputable def g__law_starts : GF := gf d__law_starts ms__law_starts .fz 5
theorem ap__law_starts (a0 : D) : g__law_starts [a0] = (d__law_starts [some a0, none, none, none, none]).bind (fin ms__law_starts .fz) := gf_ap
def ms__law_meets : List Pm := [.fz, .fz, .fz, .fz]
noncomputable def d__law_meets : SX :=
  (sSeq (sIf (bNot (bT (eCall ms__law_shares [.v, .v] g__law_shares (aC (eB gIx (eV 0) (eV 2)) (aC (eB gIx (eV 0) (eV 3)) aN)))))
  (sRetF [0, 1, 2, 3, 4] (eC (.bl false)))
  sNil)
  (sSeq (sSet 4 (eA gMax2 (aC (eB gIx (eV 1) (eV 2)) (aC (eB gIx (eV 1) (eV 3)) aN))))
  (sRetF [0, 1, 2, 3, 4] (vAnd (eB (gC fun i j => decide (i < j)) (eV 4) (eB gAdd (eB gIx (eV 1) (eV 2)) (eB gIx (eB gIx (eV 0) (eV 2)) (eC (.int 3))))) (eB (gC fun i j => decide (i < j)) (eV 4) (eB gAdd (eB gIx (eV 1) (eV 3)) (eB gIx (eB gIx (eV 0) (eV 3)) (eC (.int 3)))))))))
noncomputable def g__law_meets : GF := gf d__law_meets ms__law_meets .fz 5
theorem ap__law_meets (a0 a1 a2 a3 : D) : g__law_meets [a0, a1, a2, a3] = (d__law_meets [some a0, some a1, some a2, some a3, none]).bind (fin ms__law_meets .fz) := gf_ap
def ms__law_orders : List Pm := [.fz]
noncomputable def k__law_orders_1 : BX :=
  (bT (eB (gIn true) (eV 5) (eV 4)))
noncomputable def x__law_orders_1 : EX :=
  (eB gAdd (eV 4) (eA gTup (aC (eV 5) aN)))
noncomputable def b__law_orders_1 : SX :=
  (sDrop (eMut 3 gExtend (aC (eLc (iRng gRng1 (aC (eV 0) aN)) (gtN 5) k__law_orders_1 x__law_orders_1 [5]) aN)))
noncomputable def b__law_orders_2 : SX :=
  (sSeq (sSet 3 (eA gLst aN))
  (sSeq (sFor (iSeq (eV 1)) (gtN 4) b__law_orders_1 [4])
  (sSet 1 (eV 3))))
noncomputable def d__law_orders : SX :=
  (sSeq (sSet 1 (eA gLst (aC (eA gTup aN) aN)))
  (sSeq (sFor (iRng gRng1 (aC (eV 0) aN)) (gtN 2) b__law_orders_2 [2, 3, 4])
  (sRetF [0, 1, 2, 3, 4, 5] (eV 1))))
noncomputable def g__law_orders : GF := gf d__law_orders ms__law_orders .fz 6
theorem ap__law_orders (a0 : D) : g__law_orders [a0] = (d__law_orders [some a0, none, none, none, none, none]).bind (fin ms__law_orders .fz) := gf_ap
def ms__law_waiting : List Pm := [.fz, .fz]
noncomputable def x__law_waiting_1 : EX :=
  (eB gIx (eV 0) (eV 3))
noncomputable def x__law_waiting_2 : EX :=
  (eB gIx (eV 4) (eC (.int 2)))
noncomputable def d__law_waiting : SX :=
  (sSeq (sSet 2 (eCall ms__law_starts [.v] g__law_starts (aC (eLc (iSeq (eV 1)) (gtN 3) (fun env => some (true, env)) x__law_waiting_1 [3]) aN)))
  (sRetF [0, 1, 2, 3, 4] (eB (gI fun i j => i - j) (eU gSum (eV 2)) (eU gSum (eLc (iSeq (eV 0)) (gtN 4) (fun env => some (true, env)) x__law_waiting_2 [4])))))
noncomputable def g__law_waiting : GF := gf d__law_waiting ms__law_waiting .fz 5
theorem ap__law_waiting (a0 a1 : D) : g__law_waiting [a0, a1] = (d__law_waiting [some a0, some a1, none, none, none]).bind (fin ms__law_waiting .fz) := gf_ap
def ms__law_is_feasible : List Pm := [.fz, .fz]
noncomputable def b__law_is_feasible_1 : SX :=
  (sIf (bT (eCall ms__law_meets [.v, .v, .v, .v] g__law_meets (aC (eV 0) (aC (eV 1) (aC (eV 3) (aC (eV 2) aN))))))
  (sRetF [0, 1, 2, 3] (eC (.bl false)))
  sNil)
noncomputable def b__law_is_feasible_2 : SX :=
  (sSeq (sIf (bT (eB (gC fun i j => decide (i < j)) (eB gIx (eV 1) (eV 2)) (eB gIx (eB gIx (eV 0) (eV 2)) (eC (.int 2)))))
  (sRetF [0, 1, 2, 3] (eC (.bl false)))
  sNil)
  (sFor (iRng gRng1 (aC (eV 2) aN)) (gtN 3) b__law_is_feasible_1 [3]))
noncomputable def d__law_is_feasible : SX :=
  (sSeq (sFor (iRng gRng1 (aC (eU gLen (eV 0)) aN)) (gtN 2) b__law_is_feasible_2 [2, 3])
  (sRetF [0, 1, 2, 3] (eC (.bl true))))
noncomputable def g__law_is_feasible : GF := gf d__law_is_feasible ms__law_is_feasible .fz 4
theorem ap__law_is_feasible (a0 a1 : D) : g__law_is_feasible [a0, a1] = (d__law_is_feasible [some a0, some a1, none, none]).bind (fin ms__law_is_feasible .fz) := gf_ap
def ms__law_no_better : List Pm := [.fz, .fz]
noncomputable def x__law_no_better_1 : EX :=
  (eB gIx (eV 8) (eC (.int 2)))
noncomputable def x__law_no_better_2 : EX :=
  (eB gAdd (eV 6) (eA gTup (aC (eV 9) aN)))
noncomputable def b__law_no_better_1 : SX :=
  (sDrop (eMut 5 gExtend (aC (eLc (iRng gRng2 (aC (eV 2) (aC (eB gAdd (eV 2) (eC (.int 11))) aN))) (gtN 9) (fun env => some (true, env)) x__law_no_better_2 [9]) aN)))
noncomputable def b__law_no_better_2 : SX :=
  (sSeq (sSet 5 (eA gLst aN))
  (sSeq (sFor (iSeq (eV 3)) (gtN 6) b__law_no_better_1 [6])
  (sSet 3 (eV 5))))
noncomputable def x__law_no_better_3 : EX :=
  (eB gIx (eV 8) (eC (.int 2)))
noncomputable def b__law_no_better_3 : SX :=
  (sSeq (sSet 7 (eB (gI fun i j => i - j) (eU gSum (eV 6)) (eU gSum (eLc (iSeq (eV 0)) (gtN 8) (fun env => some (true, env)) x__law_no_better_3 [8]))))
  (sIf (bAnd (bT (eB (gC fun i j => decide (i < j)) (eV 7) (eV 1))) (bT (eCall ms__law_is_feasible [.v, .v] g__law_is_feasible (aC (eV 0) (aC (eV 6) aN)))))
  (sRetF [0, 1, 2, 3, 4, 5, 6, 7, 8, 9] (eC (.bl false)))
  sNil))
noncomputable def d__law_no_better : SX :=
  (sSeq (sSet 2 (eU gMin (eLc (iSeq (eV 0)) (gtN 8) (fun env => some (true, env)) x__law_no_better_1 [8])))
  (sSeq (sSet 3 (eA gLst (aC (eA gTup aN) aN)))
  (sSeq (sFor (iRng gRng1 (aC (eU gLen (eV 0)) aN)) (gtN 4) b__law_no_better_2 [4, 5, 6])
  (sSeq (sFor (iSeq (eV 3)) (gtN 6) b__law_no_better_3 [7])
  (sRetF [0, 1, 2, 3, 4, 5, 6, 7, 8, 9] (eC (.bl true)))))))
noncomputable def g__law_no_better : GF := gf d__law_no_better ms__law_no_better .fz 10
theorem ap__law_no_better (a0 a1 : D) : g__law_no_better [a0, a1] = (d__law_no_better [some a0, some a1, none, none, none, none, none, none, none, none]).bind (fin ms__law_no_better .fz) := gf_ap
def ms_law : List Pm := [.br]
noncomputable def x_law_1 : EX :=
  (eA gTup (aC (eB gIx (eV 11) (eC (.int 0))) (aC (eB gIx (eV 11) (eC (.int 1))) (aC (eB (gI fun i j => i - j) (eB gIx (eV 11) (eC (.int 2))) (eB (gIf cMul fun i j => i * j) (eB (gIf cDiv fun i j => i / j) (eB gIx (eV 11) (eC (.int 2))) (eC (.int 4))) (eC (.int 4)))) (aC (eB (gI fun i j => i - j) (eB gAdd (eC (.int 1)) (eB gIx (eV 11) (eC (.int 3)))) (eB (gIf cMul fun i j => i * j) (eB (gIf cDiv fun i j => i / j) (eB gIx (eV 11) (eC (.int 3))) (eC (.int 3))) (eC (.int 3)))) aN)))))
noncomputable def b_law_1 : SX :=
  (sSeq (sSet 7 (eCall ms__law_waiting [.v, .v] g__law_waiting (aC (eV 3) (aC (eV 6) aN))))
  (sIf (bOr (bT (eB gIsN (eV 5) (eC .non))) (bT (eB (gC fun i j => decide (i < j)) (eV 7) (eB gIx (eV 5) (eC (.int 1))))))
  (sSet 5 (eA gTup (aC (eV 6) (aC (eV 7) aN))))
  sNil))
noncomputable def x_law_2 : EX :=
  (eB gIx (eV 3) (eV 10))
noncomputable def x_law_3 : EX :=
  (eB gIx (eV 8) (eMt isTup gTIndex (eB gIx (eV 5) (eC (.int 0))) (aC (eV 10) aN)))
noncomputable def d_law : SX :=
  (sSeq (sSet 1 (eCall ms__law_pool [.s 0] g__law_pool (aS 0 aN)))
  (sSeq (sSet 2 (eB gAdd (eC (.int 1)) (eCall ms__law_take [.s 1, .v] g__law_take (aS 1 (aC (eC (.int 12)) aN)))))
  (sSeq (sSet 3 (eB gCat (eCall ms__law_ships [.s 1, .v, .v] g__law_ships (aS 1 (aC (eV 2) (aC (eC (.int 4)) aN)))) (eA gLst (aC (eA gTup (aC (eC (.int 0)) (aC (eB gAdd (eC (.int 1)) (eCall ms__law_take [.s 1, .v] g__law_take (aS 1 (aC (eV 2) aN)))) (aC (eCall ms__law_take [.s 1, .v] g__law_take (aS 1 (aC (eC (.int 9)) aN))) (aC (eB gAdd (eC (.int 1)) (eCall ms__law_take [.s 1, .v] g__law_take (aS 1 (aC (eC (.int 9)) aN)))) aN))))) aN))))
  (sSeq (sSet 4 (eB gEq (eCall ms__law_take [.s 1, .v] g__law_take (aS 1 (aC (eC (.int 3)) aN))) (eC (.int 0))))
  (sSeq (sIf (bT (eV 4))
  (sSet 3 (eLc (iSeq (eSl (eV 3) (oI (eU gNeg (eC (.int 3)))) (fun env => some (none, env)))) (gtN 11) (fun env => some (true, env)) x_law_1 [11]))
  sNil)
  (sSeq (sSet 5 (eC .non))
  (sSeq (sFor (iSeq (eCall ms__law_orders [.v] g__law_orders (aC (eU gLen (eV 3)) aN))) (gtN 6) b_law_1 [6, 7])
  (sSeq (sIf (bNot (bT (eCall ms__law_same [.v, .v] g__law_same (aC (eCall ms_best_order [.v] g_best_order (aC (eV 3) aN)) (aC (eV 5) aN)))))
  (sRetF [0, 1, 2, 3, 4, 5, 6, 7, 8, 9, 10, 11] (eC (.bl false)))
  sNil)
  (sSeq (sSet 8 (eCall ms_starts [.v] g_starts (aC (eLc (iSeq (eB gIx (eV 5) (eC (.int 0)))) (gtN 10) (fun env => some (true, env)) x_law_2 [10]) aN)))
  (sSeq (sSet 9 (eLc (iRng gRng1 (aC (eU gLen (eV 3)) aN)) (gtN 10) (fun env => some (true, env)) x_law_3 [10]))
  (sSeq (sIf (bOr (bNot (bT (eCall ms__law_same [.v, .v] g__law_same (aC (eCall ms_conflicts [.v, .v] g_conflicts (aC (eV 3) (aC (eV 9) aN))) (aC (eA gTup (aC (eA gTup aN) (aC (eA gTup aN) aN))) aN))))) (bNot (bT (eCall ms__law_same [.v, .v] g__law_same (aC (eCall ms_waiting [.v, .v] g_waiting (aC (eV 3) (aC (eV 9) aN))) (aC (eB gIx (eV 5) (eC (.int 1))) aN))))))
  (sRetF [0, 1, 2, 3, 4, 5, 6, 7, 8, 9, 10, 11] (eC (.bl false)))
  sNil)
  (sRetF [0, 1, 2, 3, 4, 5, 6, 7, 8, 9, 10, 11] (vOr (eU gNot (eV 4)) (eCall ms__law_no_better [.v, .v] g__law_no_better (aC (eV 3) (aC (eB gIx (eV 5) (eC (.int 1))) aN))))))))))))))))
noncomputable def g_law : GF := gf d_law ms_law .fz 12
theorem ap_law (a0 : D) : g_law [a0] = (d_law [some a0, none, none, none, none, none, none, none, none, none, none, none]).bind (fin ms_law .fz) := gf_ap
end Lk14
namespace Lk14
open PySem L2 DL
theorem take_eq : g__law_take = gTake := rfl
theorem pool_eq : g__law_pool = gPool := rfl
theorem same_eq : g__law_same = rSame 8 := rfl
structure Ship where
  p : Int
  l : Int
  r : Int
  s : Int
def Ship.d (x : Ship) : D := .tup [.int x.p, .int x.l, .int x.r, .int x.s]
@[simp] theorem ix0 (x : Ship) : gIx x.d (.int 0) = some (.int x.p) := by simp [Ship.d]
@[simp] theorem ix1 (x : Ship) : gIx x.d (.int 1) = some (.int x.l) := by simp [Ship.d]
@[simp] theorem ix2 (x : Ship) : gIx x.d (.int 2) = some (.int x.r) := by simp [Ship.d]
@[simp] theorem ix3 (x : Ship) : gIx x.d (.int 3) = some (.int x.s) := by simp [Ship.d]
def shr (a b : Ship) : Bool := decide (a.p < b.p + b.l) && decide (b.p < a.p + a.l)
theorem is_sharing_eq (a b : Ship) : g_is_sharing [a.d, b.d] = some (.bl (shr a b), [none, none]) := by
  simp [ap_is_sharing, d_is_sharing, ms_is_sharing, shr]
  split <;> simp [*]
theorem shares_eq (a b : Ship) (ha : 0 < a.l) (hb : 0 < b.l) : g__law_shares [a.d, b.d] = some (.bl (shr a b), [none, none]) := by
  simp [ap__law_shares, d__law_shares, ms__law_shares, shr]
  rw [Bool.eq_iff_iff]
  simp
  omega
/-! ### the earliest starts -/
abbrev Pre := List (Ship × Int)
def stepAt (x : Ship) (st : Int) (y : Ship × Int) : Int := if shr y.1 x = true then max st (y.2 + y.1.s) else st
def startAt (x : Ship) (pre : Pre) : Int := pre.foldl (stepAt x) x.r
def stGo : Pre → List Ship → Pre
  | pre, [] => pre
  | pre, x :: r => stGo (pre ++ [(x, startAt x pre)]) r
def fsts (pre : Pre) : List Ship := pre.map (·.1)
def snds (pre : Pre) : List Int := pre.map (·.2)
theorem stGo_fst : ∀ (r : List Ship) (pre : Pre), fsts (stGo pre r) = fsts pre ++ r
  | [], pre => by simp [stGo]
  | x :: r, pre => by rw [stGo, stGo_fst r]; simp [fsts]
def starts (sh : List Ship) : List Int := snds (stGo [] sh)
theorem starts_len (sh : List Ship) : (starts sh).length = sh.length := by
  have := congrArg List.length (stGo_fst sh [])
  simpa [starts, fsts, snds] using this
theorem b1_eq (sh : List Ship) (f : List Int) (n k : Nat) (x y : Ship) (v s : Int) (h1 : sh[k]? = some y) (h2 : f[k]? = some s) :
    b_starts_1 [some (.lst (sh.map Ship.d)), some (.lst (f.map .int)), some (.int n), some x.d, some (.int v), some (.int k)] =
      some (.nx [some (.lst (sh.map Ship.d)), some (.lst (f.map .int)), some (.int n), some x.d, some (.int (stepAt x v (y, s))), some (.int k)]) := by
  simp [b_starts_1, atI_map h1, atI_map h2, is_sharing_eq, ms_is_sharing, stepAt]
  split <;> simp
theorem loop1 (sh : List Ship) (pre : Pre) (x : Ship) (rest : List Ship) (hs : sh = fsts pre ++ rest) : ∀ (p2 p1 : Pre) (v : Int), p1 ++ p2 = pre →
    forL (gtN 5) b_starts_1 [5] (rngD p1.length pre.length) [some (.lst (sh.map Ship.d)), some (.lst ((snds pre).map .int)), some (.int pre.length), some x.d, some (.int v), none] =
      some (.nx [some (.lst (sh.map Ship.d)), some (.lst ((snds pre).map .int)), some (.int pre.length), some x.d, some (.int (p2.foldl (stepAt x) v)), none])
  | [], p1, v, h => by
    rw [List.append_nil] at h
    subst h
    rw [rng_nil (Int.le_refl _)]
    rfl
  | y :: p2, p1, v, h => by
    have hl : p1.length < pre.length := by rw [← h]; simp
    have h1 : sh[p1.length]? = some y.1 := by rw [hs, ← h]; simp [fsts]
    have h2 : (snds pre)[p1.length]? = some y.2 := by rw [← h]; simp [snds]
    have ih := loop1 sh pre x rest hs p2 (p1 ++ [y]) (stepAt x v y) (by rw [← h]; simp)
    rw [List.length_append, List.length_singleton] at ih
    rw [rng_cons (by omega), forL_cons]
    simp [b1_eq sh (snds pre) pre.length p1.length x y.1 v y.2 h1 h2, turn]
    exact ih
theorem loop2 (sh : List Ship) (hl : sh.length ≤ 1000) : ∀ (rest : List Ship) (pre : Pre), fsts pre ++ rest = sh →
    forL (gtTup 2 (gtCons (gtN 2) (gtCons (gtN 3) gtNil))) b_starts_2 [2, 3, 4, 5] (enumD pre.length (rest.map Ship.d)) [some (.lst (sh.map Ship.d)), some (.lst ((snds pre).map .int)), none, none, none, none] =
      some (.nx [some (.lst (sh.map Ship.d)), some (.lst ((snds (stGo pre rest)).map .int)), none, none, none, none])
  | [], pre, h => rfl
  | x :: r, pre, h => by
    have hp : pre.length ≤ 1000 := by
      have := congrArg List.length h
      simp [fsts] at this
      omega
    have l1 := loop1 sh pre x (x :: r) h.symm pre [] x.r rfl
    have ih := loop2 sh hl r (pre ++ [(x, startAt x pre)]) (by rw [← h]; simp [fsts])
    rw [List.map_cons, enumD_cons, forL_cons]
    have hn : near (pre.length : Int) = true := near_len (by omega)
    have hb : big ((snds pre).length + 1) = false := big_of (by simp [snds]; omega)
    simp at l1
    simp [b_starts_2, hn, l1, hb, turn]
    simp [snds] at ih ⊢
    exact ih
theorem starts_eq (sh : List Ship) (hl : sh.length ≤ 1000) : g_starts [.lst (sh.map Ship.d)] = some (.tup ((starts sh).map .int), [none]) := by
  have l2 := loop2 sh hl sh [] (by simp [fsts])
  simp [snds] at l2
  have hb : big 0 = false := big_of (by omega)
  simp [ap_starts, d_starts, hb, l2, ms_starts, starts, snds]
end Lk14
namespace Lk14
/-! ### orders -/
def left (n : Nat) (o : List Nat) : List Nat := (List.range n).filter fun k => !o.contains k
def ext (n : Nat) (o : List Nat) : List (List Nat) := (left n o).map fun k => o ++ [k]
def leaves (n : Nat) : Nat → List Nat → List (List Nat)
  | 0, o => [o]
  | m + 1, o => (ext n o).flatMap (leaves n m)
def orders (n : Nat) : List (List Nat) := leaves n n []
def bfs (n : Nat) : Nat → List (List Nat) → List (List Nat)
  | 0, L => L
  | m + 1, L => bfs n m (L.flatMap (ext n))
theorem bfs_leaves (n : Nat) : ∀ (m : Nat) (L : List (List Nat)), bfs n m L = L.flatMap (leaves n m)
  | 0, L => by simp [bfs, leaves, List.flatMap_singleton']
  | m + 1, L => by
    rw [bfs, bfs_leaves n m, List.flatMap_assoc]
    rfl
/-- an order so far -/
structure Ord (n : Nat) (o : List Nat) : Prop where
  nd : o.Nodup
  lt : ∀ k ∈ o, k < n
theorem mem_left {n : Nat} {o : List Nat} {k : Nat} : k ∈ left n o ↔ k < n ∧ k ∉ o := by
  simp [left]
theorem Ord.flt {n : Nat} {o : List Nat} (h : Ord n o) : ((List.range n).filter fun k => o.contains k).Perm o := by
  refine (List.perm_ext_iff_of_nodup (List.nodup_range.filter _) h.nd).mpr fun k => ?_
  simp
  exact h.lt k
theorem left_len {n : Nat} {o : List Nat} (h : Ord n o) : (left n o).length = n - o.length := by
  have e : ((List.range n).filter fun k => o.contains k).length + (left n o).length = n := by
    have := List.length_eq_countP_add_countP (fun k => o.contains k) (l := List.range n)
    rw [List.countP_eq_length_filter, List.countP_eq_length_filter, List.length_range] at this
    rw [left]
    simp at this ⊢
    omega
  have := h.flt.length_eq
  omega
theorem Ord.le {n : Nat} {o : List Nat} (h : Ord n o) : o.length ≤ n := by
  have := h.flt.length_eq
  have h2 := List.length_filter_le (fun k => o.contains k) (List.range n)
  rw [List.length_range] at h2
  omega
theorem Ord.ext {n : Nat} {o o' : List Nat} (h : Ord n o) (m : o' ∈ ext n o) : Ord n o' ∧ o'.length = o.length + 1 := by
  obtain ⟨k, hk, rfl⟩ := List.mem_map.mp m
  obtain ⟨h1, h2⟩ := mem_left.mp hk
  refine ⟨⟨?_, fun j hj => ?_⟩, by simp⟩
  · rw [List.nodup_append]
    exact ⟨h.nd, by simp, fun a ha b hb e => by simp at hb; subst hb; subst e; exact h2 ha⟩
  · rcases List.mem_append.mp hj with hj | hj
    · exact h.lt j hj
    · simp at hj; omega
theorem mem_leaves {n : Nat} : ∀ (m : Nat) (o : List Nat), Ord n o → o.length + m = n → ∀ {p : List Nat}, p ∈ leaves n m o ↔ Ord n p ∧ p.length = n ∧ ∃ r, p = o ++ r
  | 0, o, h, hl, p => by
    simp only [leaves, List.mem_singleton]
    constructor
    · rintro rfl
      exact ⟨h, by omega, [], by simp⟩
    · rintro ⟨h1, h2, r, rfl⟩
      have : r.length = 0 := by simp at h2; omega
      rw [List.length_eq_zero_iff.mp this]; simp
  | m + 1, o, h, hl, p => by
    rw [leaves, List.mem_flatMap]
    constructor
    · rintro ⟨o', h1, h2⟩
      obtain ⟨q1, q2⟩ := h.ext h1
      obtain ⟨a, b, r, rfl⟩ := (mem_leaves m o' q1 (by omega)).mp h2
      obtain ⟨k, _, rfl⟩ := List.mem_map.mp h1
      exact ⟨a, b, k :: r, by simp⟩
    · rintro ⟨h1, h2, r, rfl⟩
      cases r with
      | nil => simp at h2; omega
      | cons k r =>
        have hk : k ∈ left n o := by
          refine mem_left.mpr ⟨h1.lt k (by simp), fun z => ?_⟩
          have := h1.nd
          rw [List.nodup_append] at this
          exact this.2.2 k z k (by simp) rfl
        refine ⟨o ++ [k], List.mem_map.mpr ⟨k, hk, rfl⟩, ?_⟩
        obtain ⟨q1, q2⟩ := h.ext (List.mem_map.mpr ⟨k, hk, rfl⟩)
        exact (mem_leaves m _ q1 (by omega)).mpr ⟨h1, h2, r, by simp⟩
theorem mem_orders {n : Nat} {p : List Nat} : p ∈ orders n ↔ Ord n p ∧ p.length = n := by
  rw [orders, mem_leaves n [] ⟨List.nodup_nil, by simp⟩ (by simp)]
  exact ⟨fun h => ⟨h.1, h.2.1⟩, fun h => ⟨h.1, h.2, p, rfl⟩⟩
theorem orders_perm {n : Nat} {p : List Nat} (h : p ∈ orders n) : p.Perm (List.range n) := by
  obtain ⟨h, hl⟩ := mem_orders.mp h
  have e : ((List.range n).filter fun k => p.contains k) = List.range n := List.filter_sublist.eq_of_length (by rw [h.flt.length_eq, hl, List.length_range])
  have := h.flt
  rw [e] at this
  exact this.symm
theorem perm_orders {n : Nat} {p : List Nat} (h : p.Perm (List.range n)) : p ∈ orders n :=
  mem_orders.mpr ⟨⟨h.nodup_iff.mpr List.nodup_range, fun k hk => List.mem_range.mp (h.mem_iff.mp hk)⟩, by simpa using h.length_eq⟩
theorem orders_pos (n : Nat) : orders n ≠ [] := by
  intro e
  have := perm_orders (n := n) (List.Perm.refl _)
  rw [e] at this
  simp at this
/-! ### the first least one -/
def upd (t : List Nat → Int) (b : Option (List Nat × Int)) (o : List Nat) : Option (List Nat × Int) := match b with
  | none => some (o, t o)
  | some (o', t') => if t o < t' then some (o, t o) else some (o', t')
theorem upd_some (t : List Nat → Int) : ∀ (L : List (List Nat)) (o' : List Nat) (h : True), ∃ o, L.foldl (upd t) (some (o', t o')) = some (o, t o) ∧ (o = o' ∨ o ∈ L) ∧ t o ≤ t o' ∧ ∀ p ∈ L, t o ≤ t p
  | [], o', _ => ⟨o', rfl, .inl rfl, Int.le_refl _, by simp⟩
  | q :: L, o', _ => by
    rw [List.foldl_cons, upd]
    split
    · rename_i hlt
      obtain ⟨o, e, m, a, b⟩ := upd_some t L q trivial
      refine ⟨o, e, ?_, by omega, fun p hp => ?_⟩
      · rcases m with rfl | m
        · exact .inr List.mem_cons_self
        · exact .inr (List.mem_cons_of_mem _ m)
      · rcases List.mem_cons.mp hp with rfl | hp
        · exact a
        · exact b p hp
    · rename_i hlt
      obtain ⟨o, e, m, a, b⟩ := upd_some t L o' trivial
      refine ⟨o, e, ?_, a, fun p hp => ?_⟩
      · rcases m with rfl | m
        · exact .inl rfl
        · exact .inr (List.mem_cons_of_mem _ m)
      · rcases List.mem_cons.mp hp with rfl | hp
        · omega
        · exact b p hp
theorem upd_none (t : List Nat → Int) (L : List (List Nat)) (h : L ≠ []) : ∃ o, L.foldl (upd t) none = some (o, t o) ∧ o ∈ L ∧ ∀ p ∈ L, t o ≤ t p := by
  cases L with
  | nil => exact absurd rfl h
  | cons q L =>
    rw [List.foldl_cons]
    obtain ⟨o, e, m, a, b⟩ := upd_some t L q trivial
    refine ⟨o, e, ?_, fun p hp => ?_⟩
    · rcases m with rfl | m
      · exact List.mem_cons_self
      · exact List.mem_cons_of_mem _ m
    · rcases List.mem_cons.mp hp with rfl | hp
      · exact a
      · exact b p hp
/-! ### the search's stack: the last first -/
def wt : Nat → Nat
  | 0 => 1
  | m + 1 => 1 + (m + 1) * wt m
theorem wt_pos : ∀ m, 1 ≤ wt m
  | 0 => Nat.le_refl _
  | m + 1 => by rw [wt]; omega
def rest (n : Nat) (S : List (List Nat)) : List (List Nat) := S.reverse.flatMap fun o => leaves n (n - o.length) o
def wts (n : Nat) (S : List (List Nat)) : Nat := (S.map fun o => wt (n - o.length)).sum
theorem wts_len (n : Nat) : ∀ S : List (List Nat), S.length ≤ wts n S
  | [] => Nat.le_refl _
  | o :: S => by
    have := wts_len n S
    have h := wt_pos (n - o.length)
    simp only [wts, List.map_cons, List.sum_cons, List.length_cons] at this ⊢
    omega
theorem rest_snoc (n : Nat) (S : List (List Nat)) (o : List Nat) : rest n (S ++ [o]) = leaves n (n - o.length) o ++ rest n S := by simp [rest]
theorem rest_app (n : Nat) (S T : List (List Nat)) : rest n (S ++ T) = rest n T ++ rest n S := by simp [rest]
theorem wts_app (n : Nat) (S T : List (List Nat)) : wts n (S ++ T) = wts n S + wts n T := by simp [wts]
theorem rest_ext {n : Nat} {o : List Nat} (h : Ord n o) (hl : o.length < n) : rest n (ext n o).reverse = leaves n (n - o.length) o := by
  obtain ⟨m, hm⟩ : ∃ m, n - o.length = m + 1 := ⟨n - o.length - 1, by omega⟩
  rw [hm, leaves, rest, List.reverse_reverse]
  have hq : ∀ o' ∈ ext n o, leaves n (n - o'.length) o' = leaves n m o' := fun o' ho => by
    rw [(h.ext ho).2, show n - (o.length + 1) = m by omega]
  rw [List.flatMap_def, List.flatMap_def, List.map_congr_left hq]
theorem wts_ext {n : Nat} {o : List Nat} (h : Ord n o) (hl : o.length < n) : wts n (ext n o).reverse + 1 = wt (n - o.length) := by
  obtain ⟨m, hm⟩ : ∃ m, n - o.length = m + 1 := ⟨n - o.length - 1, by omega⟩
  have hq : ∀ o' ∈ (ext n o).reverse, wt (n - o'.length) = wt m := fun o' ho => by
    rw [(h.ext (List.mem_reverse.mp ho)).2, show n - (o.length + 1) = m by omega]
  have hlen : (ext n o).length = m + 1 := by rw [ext, List.length_map, left_len h, hm]
  rw [wts, List.map_congr_left hq, List.map_const', List.sum_replicate_nat, List.length_reverse, hlen, hm, wt]
  omega
end Lk14
namespace Lk14
open PySem L2 DL
theorem compL_cons {set : GX} {cond : BX} {elt : EX} {vs : List Nat} {d : D} {ds acc : List D} {e : En} : compL set cond elt vs (d :: ds) acc e = (set d e).bind fun e1 => (cond e1).bind fun x => if x.1 = true then (elt x.2).bind fun y => if big (acc.length + 1) = true then none else compL set cond elt vs ds (acc ++ [y.1]) (fgE vs y.2) else compL set cond elt vs ds acc (fgE vs x.2) := rfl
theorem compL_nil {set : GX} {cond : BX} {elt : EX} {vs : List Nat} {acc : List D} {e : En} : compL set cond elt vs [] acc e = some (acc, e) := rfl
theorem maxI_fold : ∀ (L : List Int) (a : Int), maxI (a :: L) = L.foldl max a
  | [], a => rfl
  | b :: L, a => by
    rw [maxI, maxI_fold L b, List.foldl_cons]
    have : ∀ (L : List Int) (a b : Int), max a (L.foldl max b) = L.foldl max (max a b) := by
      intro L
      induction L with
      | nil => intro a b; rfl
      | cons c L ih => intro a b; rw [List.foldl_cons, List.foldl_cons, ih]; congr 1; omega
    exact this L a b
def lefts (x : Ship) (pre : Pre) : List Int := (pre.filter fun y => shr y.1 x).map fun y => y.2 + y.1.s
theorem lefts_fold (x : Ship) : ∀ (pre : Pre) (v : Int), (lefts x pre).foldl max v = pre.foldl (stepAt x) v
  | [], v => rfl
  | y :: pre, v => by
    have ih := lefts_fold x pre
    unfold lefts at ih ⊢
    rw [List.filter_cons, List.foldl_cons, stepAt]
    split
    · rw [List.map_cons, List.foldl_cons]; exact ih _
    · exact ih _
def LPos (sh : List Ship) : Prop := ∀ x ∈ sh, 0 < x.l
theorem lcomp (sh : List Ship) (hp : LPos sh) (pre : Pre) (x : Ship) (rest : List Ship) (hs : sh = fsts pre ++ x :: rest) (hb : pre.length ≤ 1000) : ∀ (p2 p1 : Pre) (acc : List D), p1 ++ p2 = pre → acc.length ≤ p1.length →
    compL (gtN 4) k__law_starts_1 x__law_starts_1 [4] (rngD p1.length pre.length) acc [some (.lst (sh.map Ship.d)), some (.lst ((snds pre).map .int)), some (.int pre.length), none, none] =
      some (acc ++ (lefts x p2).map .int, [some (.lst (sh.map Ship.d)), some (.lst ((snds pre).map .int)), some (.int pre.length), none, none])
  | [], p1, acc, h, ha => by
    rw [List.append_nil] at h
    subst h
    rw [rng_nil (Int.le_refl _), compL_nil]
    simp [lefts]
  | y :: p2, p1, acc, h, ha => by
    have hl : p1.length < pre.length := by rw [← h]; simp
    have h1 : sh[p1.length]? = some y.1 := by rw [hs, ← h]; simp [fsts]
    have h2 : (snds pre)[p1.length]? = some y.2 := by rw [← h]; simp [snds]
    have h3 : sh[pre.length]? = some x := by rw [hs]; simp [fsts]
    have g1 : 0 < y.1.l := hp _ (List.mem_of_getElem? h1)
    have g3 : 0 < x.l := hp _ (List.mem_of_getElem? h3)
    have ih := lcomp sh hp pre x rest hs hb p2 (p1 ++ [y])
    rw [List.length_append, List.length_singleton] at ih
    rw [rng_cons (by omega), compL_cons]
    have hbg : big (acc.length + 1) = false := big_of (by omega)
    simp [k__law_starts_1, x__law_starts_1, atI_map h1, atI_map h2, atI_map h3, shares_eq _ _ g1 g3, ms__law_shares, hbg]
    have e : lefts x (y :: p2) = if shr y.1 x = true then (y.2 + y.1.s) :: lefts x p2 else lefts x p2 := by
      unfold lefts; rw [List.filter_cons]; split <;> rfl
    rw [e]
    split
    · have := ih (acc ++ [.int (y.2 + y.1.s)]) (by rw [← h]; simp) (by simp; omega)
      simp at this ⊢
      exact this
    · exact ih acc (by rw [← h]; simp) (by omega)
theorem lloop (sh : List Ship) (hp : LPos sh) (hl : sh.length ≤ 1000) : ∀ (rest : List Ship) (pre : Pre), fsts pre ++ rest = sh →
    forL (gtN 2) b__law_starts_1 [2, 3] (rngD pre.length sh.length) [some (.lst (sh.map Ship.d)), some (.lst ((snds pre).map .int)), none, none, none] =
      some (.nx [some (.lst (sh.map Ship.d)), some (.lst ((snds (stGo pre rest)).map .int)), none, none, none])
  | [], pre, h => by
    have : sh.length = pre.length := by rw [← h]; simp [fsts]
    rw [this, rng_nil (Int.le_refl _)]
    rfl
  | x :: r, pre, h => by
    have hq : sh.length = pre.length + (r.length + 1) := by rw [← h]; simp [fsts]
    have h3 : sh[pre.length]? = some x := by rw [← h]; simp [fsts]
    have l1 := lcomp sh hp pre x r h.symm (by omega) pre [] [] rfl (by simp)
    have ih := lloop sh hp hl r (pre ++ [(x, startAt x pre)]) (by rw [← h]; simp [fsts])
    rw [rng_cons (by omega), forL_cons]
    have hn : near (pre.length : Int) = true := near_len (by omega)
    have hb : big ((snds pre).length + 1) = false := big_of (by simp [snds]; omega)
    have hb1 : big 1 = false := big_of (by omega)
    have hle : (lefts x pre).length ≤ pre.length := by unfold lefts; rw [List.length_map]; exact List.length_filter_le _ _
    have hb2 : big (1 + (lefts x pre).length) = false := big_of (by omega)
    have hm : intsD (.int x.r :: (lefts x pre).map .int) = some (x.r :: lefts x pre) := intsD_map (x.r :: lefts x pre)
    have hx : maxI (x.r :: lefts x pre) = startAt x pre := by rw [maxI_fold, lefts_fold]; rfl
    simp at l1
    simp [b__law_starts_1, hn, l1, hb, hb1, hb2, turn, atI_map h3, hm, hx]
    simp [snds] at ih ⊢
    exact ih
theorem law_starts_eq (sh : List Ship) (hp : LPos sh) (hl : sh.length ≤ 1000) : g__law_starts [.lst (sh.map Ship.d)] = some (.lst ((starts sh).map .int), [none]) := by
  have l2 := lloop sh hp hl sh [] (by simp [fsts])
  simp [snds] at l2
  have hb : big 0 = false := big_of (by omega)
  have hn : near (sh.length : Int) = true := near_len (by omega)
  simp [ap__law_starts, d__law_starts, hb, hn, l2, ms__law_starts, starts, snds]
end Lk14
namespace Lk14
open PySem L2 DL
theorem forL_same {set : GX} {body : SX} {m : List Nat} {e : En} (n : Nat) : ∀ (j a : Nat), n ≤ a + j → (∀ k : Nat, a ≤ k → k < n → ∃ e1 e2, set (.int k) e = some e1 ∧ body e1 = some (.nx e2) ∧ fgE m e2 = e) → forL set body m (rngD a n) e = some (.nx e)
  | 0, a, hj, h => by
    rw [rng_nil (by omega)]; rfl
  | j + 1, a, hj, h => by
    by_cases ha : a < n
    · obtain ⟨e1, e2, q1, q2, q3⟩ := h a (Nat.le_refl _) ha
      rw [rng_cons (by omega), forL_cons, q1, Option.bind_some, q2, Option.bind_some, turn, q3]
      exact forL_same n j (a + 1) (by omega) fun k h1 h2 => h k (by omega) h2
    · rw [rng_nil (by omega)]; rfl
def over (x : Ship) (v : Int) (y : Ship) (w : Int) : Bool := shr x y && (decide (v < w + y.s) && decide (w < v + x.s))
def planD (t : Bool) (f : List Int) : D := if t = true then .tup (f.map .int) else .lst (f.map .int)
theorem ixP {t : Bool} {f : List Int} {k : Nat} {v : Int} (h : f[k]? = some v) : gIx (planD t f) (.int k) = some (.int v) := by
  unfold planD
  split
  · rw [gIx_tup, atI_map h]
  · rw [gIx_lst, atI_map h]
theorem overlapping_eq (sh : List Ship) (t : Bool) (f : List Int) (i j : Nat) (x y : Ship) (v w : Int) (hi : sh[i]? = some x) (hj : sh[j]? = some y) (fi : f[i]? = some v) (fj : f[j]? = some w) :
    g_is_overlapping [.lst (sh.map Ship.d), planD t f, .int i, .int j] = some (.bl (over x v y w), [none, none, none, none]) := by
  cases hs : shr x y
  · simp [ap_is_overlapping, d_is_overlapping, ms_is_overlapping, ms_is_sharing, atI_map hi, atI_map hj, ixP fi, ixP fj, is_sharing_eq, over, hs]
  · simp [ap_is_overlapping, d_is_overlapping, ms_is_overlapping, ms_is_sharing, atI_map hi, atI_map hj, ixP fi, ixP fj, is_sharing_eq, over, hs]
    split <;> simp [*]
theorem meets_eq (sh : List Ship) (t : Bool) (f : List Int) (i j : Nat) (x y : Ship) (v w : Int) (hi : sh[i]? = some x) (hj : sh[j]? = some y) (fi : f[i]? = some v) (fj : f[j]? = some w) (lx : 0 < x.l) (ly : 0 < y.l) (sx : 0 < x.s) (sy : 0 < y.s) :
    g__law_meets [.lst (sh.map Ship.d), planD t f, .int i, .int j] = some (.bl (over x v y w), [none, none, none, none]) := by
  have e : (decide (v < w + y.s) && decide (w < v + x.s)) = (decide (max v w < v + x.s) && decide (max v w < w + y.s)) := by
    rw [Bool.eq_iff_iff]; simp; omega
  cases hs : shr x y
  · simp [ap__law_meets, d__law_meets, ms__law_meets, ms__law_shares, atI_map hi, atI_map hj, ixP fi, ixP fj, shares_eq _ _ lx ly, over, hs]
  · simp only [over, hs, e, Bool.true_and]
    simp [ap__law_meets, d__law_meets, ms__law_meets, ms__law_shares, atI_map hi, atI_map hj, ixP fi, ixP fj, shares_eq _ _ lx ly, hs]
    split <;> simp [*]
structure Feas (sh : List Ship) (f : List Int) : Prop where
  len : f.length = sh.length
  ready : ∀ (k : Nat) (x : Ship) (v : Int), sh[k]? = some x → f[k]? = some v → x.r ≤ v
  apart : ∀ (i j : Nat) (x y : Ship) (v w : Int), i < j → sh[i]? = some x → sh[j]? = some y → f[i]? = some v → f[j]? = some w → over x v y w = false
theorem get_of {α : Type} {l : List α} {k : Nat} (h : k < l.length) : ∃ x, l[k]? = some x := ⟨l[k], List.getElem?_eq_getElem h⟩
theorem early (sh : List Ship) (t : Bool) (f : List Int) (hf : Feas sh f) : ∀ (rest pre : List Ship), pre ++ rest = sh →
    compL (gtTup 2 (gtCons (gtN 6) (gtCons (gtN 7) gtNil))) k_conflicts_1 x_conflicts_1 [6, 7] (enumD pre.length (rest.map Ship.d)) [] [some (.lst (sh.map Ship.d)), some (planD t f), none, none, none, none, none, none] =
      some ([], [some (.lst (sh.map Ship.d)), some (planD t f), none, none, none, none, none, none])
  | [], pre, h => rfl
  | x :: r, pre, h => by
    have h1 : sh[pre.length]? = some x := by rw [← h]; simp
    have hl : pre.length < f.length := by rw [hf.len, ← h]; simp
    obtain ⟨v, h2⟩ := get_of hl
    have hr := hf.ready _ _ _ h1 h2
    have ih := early sh t f hf r (pre ++ [x]) (by rw [← h]; simp)
    rw [List.map_cons, enumD_cons, compL_cons]
    have hd : decide (v < x.r) = false := decide_eq_false (by omega)
    simp [k_conflicts_1, ixP h2, hd]
    simp at ih
    exact ih
theorem conflicts_eq (sh : List Ship) (t : Bool) (f : List Int) (hf : Feas sh f) (hl : sh.length ≤ 1000) : g_conflicts [.lst (sh.map Ship.d), planD t f] = some (.tup [.tup [], .tup []], [none, none]) := by
  have h1 := early sh t f hf sh [] rfl
  simp at h1
  have hb0 : big 0 = false := big_of (by omega)
  have hb2 : big 2 = false := big_of (by omega)
  have hn : near (sh.length : Int) = true := near_len (by omega)
  have inner : ∀ i : Nat, i < sh.length → forL (gtN 5) b_conflicts_1 [5] (rngD ((i : Int) + 1) sh.length) [some (.lst (sh.map Ship.d)), some (planD t f), some (.lst []), some (.lst []), some (.int i), none, none, none] = some (.nx [some (.lst (sh.map Ship.d)), some (planD t f), some (.lst []), some (.lst []), some (.int i), none, none, none]) := fun i hi => by
    refine forL_same sh.length sh.length (i + 1) (by omega) fun k h1 h2 => ?_
    obtain ⟨x, gx⟩ := get_of hi
    obtain ⟨y, gy⟩ := get_of h2
    obtain ⟨v, gv⟩ := get_of (l := f) (k := i) (by rw [hf.len]; exact hi)
    obtain ⟨w, gw⟩ := get_of (l := f) (k := k) (by rw [hf.len]; exact h2)
    have ho := hf.apart i k x y v w (by omega) gx gy gv gw
    exact ⟨_, [some (.lst (sh.map Ship.d)), some (planD t f), some (.lst []), some (.lst []), some (.int i), some (.int k), none, none], rfl, by simp [b_conflicts_1, overlapping_eq sh t f i k x y v w gx gy gv gw, ho, ms_is_overlapping], by simp⟩
  have outer : forL (gtN 4) b_conflicts_2 [4, 5] (rngD 0 sh.length) [some (.lst (sh.map Ship.d)), some (planD t f), some (.lst []), some (.lst []), none, none, none, none] = some (.nx [some (.lst (sh.map Ship.d)), some (planD t f), some (.lst []), some (.lst []), none, none, none, none]) := by
    refine forL_same sh.length sh.length 0 (by omega) fun k h1 h2 => ?_
    have hn1 : near ((k : Int) + 1) = true := near_of (by omega) (by omega)
    exact ⟨_, [some (.lst (sh.map Ship.d)), some (planD t f), some (.lst []), some (.lst []), some (.int k), none, none, none], rfl, by simp [b_conflicts_2, hn, hn1, inner k h2], by simp⟩
  simp [ap_conflicts, d_conflicts, h1, hb0, hb2, hn, outer, ms_conflicts]
end Lk14
namespace Lk14
theorem perm_sum {l l' : List Int} (h : l.Perm l') : l.sum = l'.sum := by
  induction h with
  | nil => rfl
  | cons x _ ih => simp [ih]
  | swap x y l => simp; omega
  | trans _ _ a b => exact a.trans b
theorem shr_comm (a b : Ship) : shr a b = shr b a := by unfold shr; rw [Bool.and_comm]
theorem over_comm (x y : Ship) (v w : Int) : over x v y w = over y w x v := by
  unfold over; rw [shr_comm x y, Bool.and_comm (decide (v < w + y.s))]
def ship (sh : List Ship) (k : Nat) : Ship := (sh[k]?).getD ⟨0, 1, 0, 1⟩
def pick (sh : List Ship) (o : List Nat) : List Ship := o.map (ship sh)
theorem ship_at {sh : List Ship} {k : Nat} (h : k < sh.length) : sh[k]? = some (ship sh k) := by
  unfold ship; rw [List.getElem?_eq_getElem h]; rfl
/-! what the earliest starts keep -/
structure Good (pre : Pre) : Prop where
  r : ∀ y ∈ pre, y.1.r ≤ y.2
  a : pre.Pairwise fun y x => shr y.1 x.1 = true → y.2 + y.1.s ≤ x.2
theorem fold_ge (x : Ship) : ∀ (pre : Pre) (v : Int), v ≤ pre.foldl (stepAt x) v ∧ ∀ y ∈ pre, shr y.1 x = true → y.2 + y.1.s ≤ pre.foldl (stepAt x) v
  | [], v => ⟨Int.le_refl _, by simp⟩
  | z :: pre, v => by
    obtain ⟨h1, h2⟩ := fold_ge x pre (stepAt x v z)
    rw [List.foldl_cons]
    have h0 : v ≤ stepAt x v z := by unfold stepAt; split <;> omega
    refine ⟨by omega, fun y hy hs => ?_⟩
    rcases List.mem_cons.mp hy with rfl | hy
    · have : y.2 + y.1.s ≤ stepAt x v y := by unfold stepAt; rw [if_pos hs]; omega
      omega
    · exact h2 y hy hs
theorem good_go : ∀ (l : List Ship) (pre : Pre), Good pre → Good (stGo pre l)
  | [], pre, h => h
  | x :: l, pre, h => by
    rw [stGo]
    refine good_go l _ ⟨fun y hy => ?_, ?_⟩
    · rcases List.mem_append.mp hy with hy | hy
      · exact h.r y hy
      · simp at hy; subst hy; exact (fold_ge x pre x.r).1
    · rw [List.pairwise_append]
      refine ⟨h.a, by simp, fun y hy z hz hs => ?_⟩
      simp at hz; subst hz
      exact (fold_ge x pre x.r).2 y hy hs
/-! the least of all -/
inductive Le2 : Pre → Pre → Prop
  | nil : Le2 [] []
  | cons {y q : Ship × Int} {a b : Pre} : y.1 = q.1 → y.2 ≤ q.2 → Le2 a b → Le2 (y :: a) (q :: b)
theorem Le2.snoc {y q : Ship × Int} (h1 : y.1 = q.1) (h2 : y.2 ≤ q.2) : ∀ {a b : Pre}, Le2 a b → Le2 (a ++ [y]) (b ++ [q])
  | _, _, .nil => .cons h1 h2 .nil
  | _, _, .cons a b c => .cons a b (Le2.snoc h1 h2 c)
theorem Le2.sum : ∀ {a b : Pre}, Le2 a b → (snds a).sum ≤ (snds b).sum
  | _, _, .nil => Int.le_refl _
  | _, _, .cons a b c => by
    have := Le2.sum c
    simp [snds] at this ⊢
    omega
theorem start_le (x : Ship) (fx : Int) : ∀ (pre Q : Pre), Le2 pre Q → ∀ v, v ≤ fx → (∀ q ∈ Q, shr q.1 x = true → q.2 + q.1.s ≤ fx) → pre.foldl (stepAt x) v ≤ fx
  | _, _, .nil, v, h, _ => h
  | y :: a, q :: b, .cons e1 e2 e3, v, h, k => by
    rw [List.foldl_cons]
    refine start_le x fx a b e3 _ ?_ fun q' hq => k q' (List.mem_cons_of_mem _ hq)
    unfold stepAt
    split
    · rename_i hs
      have := k q List.mem_cons_self (by rw [← e1]; exact hs)
      rw [← e1] at this
      omega
    · exact h
theorem go_le : ∀ (R Q pre : Pre), Le2 pre Q → (∀ x ∈ R, x.1.r ≤ x.2) → (∀ x ∈ R, ∀ q ∈ Q, shr q.1 x.1 = true → q.2 + q.1.s ≤ x.2) → R.Pairwise (fun q x => shr q.1 x.1 = true → q.2 + q.1.s ≤ x.2) → (snds (stGo pre (fsts R))).sum ≤ (snds (Q ++ R)).sum
  | [], Q, pre, h, _, _, _ => by rw [List.append_nil]; exact h.sum
  | x :: R, Q, pre, h, hr, hq, hp => by
    rw [List.pairwise_cons] at hp
    have e : fsts (x :: R) = x.1 :: fsts R := rfl
    rw [e, stGo]
    have ih := go_le R (Q ++ [x]) (pre ++ [(x.1, startAt x.1 pre)]) (Le2.snoc (y := (x.1, startAt x.1 pre)) (q := x) rfl (start_le x.1 x.2 pre Q h _ (hr x List.mem_cons_self) fun q hq' hs => hq x List.mem_cons_self q hq' hs) h) (fun y hy => hr y (List.mem_cons_of_mem _ hy))
      (fun y hy q hq' hs => by
        rcases List.mem_append.mp hq' with hq' | hq'
        · exact hq y (List.mem_cons_of_mem _ hy) q hq' hs
        · simp at hq'; subst hq'; exact hp.1 y hy hs) hp.2
    rw [List.append_assoc] at ih
    exact ih
def tot (sh : List Ship) (o : List Nat) : Int := (starts (pick sh o)).sum - (sh.map (·.r)).sum
def fval (f : List Int) (k : Nat) : Int := (f[k]?).getD 0
theorem fval_at {f : List Int} {k : Nat} (h : k < f.length) : f[k]? = some (fval f k) := by
  unfold fval; rw [List.getElem?_eq_getElem h]; rfl
theorem map_fval (f : List Int) : (List.range f.length).map (fval f) = f := by
  refine List.ext_getElem? fun k => ?_
  rw [List.getElem?_map]
  by_cases h : k < f.length
  · rw [List.getElem?_range h, fval_at h]; rfl
  · rw [List.getElem?_eq_none (by simpa using h), List.getElem?_eq_none (by omega)]; rfl
theorem least (sh : List Ship) (hs : ∀ x ∈ sh, 0 < x.s) (f : List Int) (hf : Feas sh f) : ∃ o ∈ orders sh.length, tot sh o ≤ f.sum - (sh.map (·.r)).sum := by
  let le : Nat → Nat → Bool := fun i j => decide (fval f i ≤ fval f j)
  let o := (List.range sh.length).mergeSort le
  have hp : o.Perm (List.range sh.length) := List.mergeSort_perm _ _
  have hnd : o.Nodup := hp.nodup_iff.mpr List.nodup_range
  have hlt : ∀ k ∈ o, k < sh.length := fun k hk => List.mem_range.mp (hp.mem_iff.mp hk)
  have hsort : o.Pairwise fun i j => le i j = true := List.pairwise_mergeSort (fun a b c h1 h2 => by simp [le] at h1 h2 ⊢; omega) (fun a b => by simp [le]; omega) _
  refine ⟨o, perm_orders hp, ?_⟩
  have key := go_le (o.map fun k => (ship sh k, fval f k)) [] [] .nil (fun x hx => ?_) (by simp) ?_
  · have e1 : fsts (o.map fun k => (ship sh k, fval f k)) = pick sh o := by simp [fsts, pick]
    have e2 : (snds ([] ++ o.map fun k => (ship sh k, fval f k))).sum = f.sum := by
      have : snds ([] ++ o.map fun k => (ship sh k, fval f k)) = o.map (fval f) := by simp [snds]
      rw [this, perm_sum (hp.map (fval f)), ← hf.len, map_fval]
    rw [e1, e2] at key
    unfold tot starts
    omega
  · obtain ⟨k, hk, rfl⟩ := List.mem_map.mp hx
    have hk := hlt k hk
    exact hf.ready k _ _ (ship_at hk) (fval_at (by rw [hf.len]; exact hk))
  · rw [List.pairwise_map]
    have both : o.Pairwise fun i j => le i j = true ∧ i ≠ j := List.Pairwise.and hsort hnd
    refine both.imp_of_mem fun {i j} hi hj h hsh => ?_
    obtain ⟨h1, h2⟩ := h
    have hi := hlt i hi
    have hj := hlt j hj
    have o0 : over (ship sh i) (fval f i) (ship sh j) (fval f j) = false := by
      rcases Nat.lt_or_gt_of_ne h2 with hlt | hgt
      · exact hf.apart i j _ _ _ _ hlt (ship_at hi) (ship_at hj) (fval_at (by rw [hf.len]; exact hi)) (fval_at (by rw [hf.len]; exact hj))
      · rw [over_comm]
        exact hf.apart j i _ _ _ _ hgt (ship_at hj) (ship_at hi) (fval_at (by rw [hf.len]; exact hj)) (fval_at (by rw [hf.len]; exact hi))
    have sj : 0 < (ship sh j).s := hs _ (List.mem_of_getElem? (ship_at hj))
    simp [le] at h1
    simp [over, hsh] at o0
    have : fval f i < fval f j + (ship sh j).s := by omega
    have := o0 this
    simpa using this
/-! the plan of an order -/
def plan (sh : List Ship) (o : List Nat) : List Int := (List.range sh.length).map fun k => fval (starts (pick sh o)) (o.idxOf k)
theorem idx_at {o : List Nat} (h : o.Nodup) {i k : Nat} (e : o[i]? = some k) : o.idxOf k = i := by
  obtain ⟨hi, e⟩ := List.getElem?_eq_some_iff.mp e
  subst e
  exact h.idxOf_getElem i hi
theorem plan_sum (sh : List Ship) (o : List Nat) (ho : o ∈ orders sh.length) : (plan sh o).sum = (starts (pick sh o)).sum := by
  have hp := orders_perm ho
  have hnd := (mem_orders.mp ho).1.nd
  unfold plan
  rw [← perm_sum (hp.map fun k => fval (starts (pick sh o)) (o.idxOf k))]
  congr 1
  have hl : (starts (pick sh o)).length = o.length := by rw [starts_len]; simp [pick]
  refine List.ext_getElem? fun i => ?_
  rw [List.getElem?_map]
  by_cases h : i < o.length
  · rw [List.getElem?_eq_getElem h, Option.map_some, idx_at hnd (List.getElem?_eq_getElem h), fval_at (by omega)]
  · rw [List.getElem?_eq_none (by omega), List.getElem?_eq_none (by omega)]; rfl
theorem plan_at {sh : List Ship} {o : List Nat} (ho : o ∈ orders sh.length) {k : Nat} (hk : k < sh.length) : ∃ i : Nat, o[i]? = some k ∧ o.idxOf k = i ∧ i < o.length ∧ (plan sh o)[k]? = some (fval (starts (pick sh o)) i) := by
  have hp := orders_perm ho
  have hm : k ∈ o := hp.mem_iff.mpr (List.mem_range.mpr hk)
  have hi := List.idxOf_lt_length_of_mem hm
  refine ⟨o.idxOf k, ?_, rfl, hi, ?_⟩
  · rw [List.getElem?_eq_getElem hi, List.getElem_idxOf]
  · unfold plan
    rw [List.getElem?_map, List.getElem?_range hk]; rfl
theorem plan_feas (sh : List Ship) (hs : ∀ x ∈ sh, 0 < x.s) (o : List Nat) (ho : o ∈ orders sh.length) : Feas sh (plan sh o) := by
  have G := good_go (pick sh o) [] ⟨by simp, List.Pairwise.nil⟩
  have hf : fsts (stGo [] (pick sh o)) = pick sh o := by rw [stGo_fst]; rfl
  have hlen : (stGo [] (pick sh o)).length = o.length := by
    have := congrArg List.length hf
    simpa [fsts, pick] using this
  -- the pair at a place
  have pr : ∀ (i k : Nat), o[i]? = some k → (stGo [] (pick sh o))[i]? = some (ship sh k, fval (starts (pick sh o)) i) := fun i k e => by
    obtain ⟨hi, _⟩ := List.getElem?_eq_some_iff.mp e
    have h1 : (fsts (stGo [] (pick sh o)))[i]? = some (ship sh k) := by rw [hf, pick, List.getElem?_map, e]; rfl
    have h2 : (starts (pick sh o))[i]? = some (fval (starts (pick sh o)) i) := fval_at (by rw [starts_len]; simpa [pick] using hi)
    have hi' : i < (stGo [] (pick sh o)).length := by omega
    rw [List.getElem?_eq_getElem hi']
    rw [fsts, List.getElem?_map, List.getElem?_eq_getElem hi'] at h1
    unfold starts snds at h2
    rw [List.getElem?_map, List.getElem?_eq_getElem hi'] at h2
    have e1 := Option.some.inj h1
    have e2 := Option.some.inj h2
    refine congrArg some (Prod.ext e1 ?_)
    exact e2
  have apart : ∀ (a b i j : Nat), a < b → o[a]? = some i → o[b]? = some j → shr (ship sh i) (ship sh j) = true → fval (starts (pick sh o)) a + (ship sh i).s ≤ fval (starts (pick sh o)) b := fun a b i j hab ha hb hsh => by
    have q := List.pairwise_iff_getElem.mp G.a
    obtain ⟨ha', ea⟩ := List.getElem?_eq_some_iff.mp (pr a i ha)
    obtain ⟨hb', eb⟩ := List.getElem?_eq_some_iff.mp (pr b j hb)
    have := q a b ha' hb' hab
    rw [ea, eb] at this
    exact this hsh
  refine ⟨by simp [plan], fun k x v hx hv => ?_, fun i j x y v w hij hx hy hv hw => ?_⟩
  · obtain ⟨hk, _⟩ := List.getElem?_eq_some_iff.mp hx
    obtain ⟨i, e1, e2, e3, e4⟩ := plan_at ho hk
    rw [e4] at hv; cases hv
    rw [ship_at hk] at hx; cases hx
    exact G.r _ (List.mem_of_getElem? (pr i k e1))
  · obtain ⟨hi, _⟩ := List.getElem?_eq_some_iff.mp hx
    obtain ⟨hj, _⟩ := List.getElem?_eq_some_iff.mp hy
    obtain ⟨a, a1, a2, a3, a4⟩ := plan_at ho hi
    obtain ⟨b, b1, b2, b3, b4⟩ := plan_at ho hj
    rw [a4] at hv; cases hv
    rw [b4] at hw; cases hw
    rw [ship_at hi] at hx; cases hx
    rw [ship_at hj] at hy; cases hy
    have hne : a ≠ b := fun e => by subst e; rw [a1] at b1; cases b1; omega
    cases hsh : shr (ship sh i) (ship sh j) with
    | false => simp [over, hsh]
    | true =>
      rcases Nat.lt_or_gt_of_ne hne with h | h
      · have := apart a b i j h a1 b1 hsh
        simp [over]
        intros; omega
      · have := apart b a j i h b1 a1 (by rw [shr_comm]; exact hsh)
        simp [over]
        intros; omega
end Lk14
namespace Lk14
open PySem L2 DL
def ordD (o : List Nat) : D := .tup (o.map fun k : Nat => .int k)
theorem gIn_ord (k : Nat) (o : List Nat) : gIn true (.int k) (ordD o) = some (.bl (!o.contains k)) := by
  have h1 : (o.map fun k : Nat => D.int k).all flatD = true := by simp [flatD]
  have h2 : ((o.map fun k : Nat => D.int k).any fun y => eqF y (.int k)) = o.contains k := by
    induction o with
    | nil => rfl
    | cons a o ih =>
      have ih := ih (by simp [flatD])
      rw [List.map_cons, List.any_cons, ih, List.contains_cons]
      congr 1
      show ((a : Int) == (k : Int)) = (k == a)
      rw [Bool.eq_iff_iff]; simp; omega
  simp only [gIn, ordD, h1, h2]
  simp [flatD]
theorem readies (sh : List Ship) : intsD (sh.map fun x => D.int x.r) = some (sh.map (·.r)) := by
  have := intsD_map (sh.map (·.r))
  rw [List.map_map] at this
  exact this
/-! the waiting of a plan -/
def waits (sh : List Ship) (f : List Int) : List Int := List.zipWith (fun x v => v - x.r) sh f
theorem waits_sum : ∀ (sh : List Ship) (f : List Int), f.length = sh.length → (waits sh f).sum = f.sum - (sh.map (·.r)).sum
  | [], [], _ => rfl
  | x :: sh, v :: f, h => by
    have := waits_sum sh f (by simpa using h)
    simp [waits] at this ⊢
    omega
theorem wcomp (sh : List Ship) (t : Bool) (f : List Int) (hl : sh.length ≤ 1000) : ∀ (rest pre : List Ship) (g pf : List Int) (acc : List D), pre ++ rest = sh → pf ++ g = f → g.length = rest.length → pf.length = pre.length → acc.length ≤ pre.length →
    compL (gtTup 2 (gtCons (gtN 2) (gtCons (gtN 3) gtNil))) (fun env => some (true, env)) x_waiting_1 [2, 3] (enumD pre.length (rest.map Ship.d)) acc [some (.lst (sh.map Ship.d)), some (planD t f), none, none] =
      some (acc ++ (waits rest g).map .int, [some (.lst (sh.map Ship.d)), some (planD t f), none, none])
  | [], pre, g, pf, acc, h, hg, h1, h2, h3 => by
    rw [List.map_nil, enumD_nil, compL_nil]
    simp [waits]
  | x :: r, pre, [], pf, acc, h, hg, h1, h2, h3 => by simp at h1
  | x :: r, pre, v :: g, pf, acc, h, hg, h1, h2, h3 => by
    have hv : f[pre.length]? = some v := by rw [← hg, ← h2]; simp
    have hq : pre.length ≤ 1000 := by
      have := congrArg List.length h
      simp at this
      omega
    have ih := wcomp sh t f hl r (pre ++ [x]) g (pf ++ [v]) (acc ++ [.int (v - x.r)]) (by rw [← h]; simp) (by rw [← hg]; simp) (by simpa using h1) (by simp [h2]) (by simp; omega)
    rw [List.map_cons, enumD_cons, compL_cons]
    have hb : big (acc.length + 1) = false := big_of (by omega)
    simp [x_waiting_1, ixP hv, hb]
    simp [waits] at ih ⊢
    exact ih
theorem check_eq (sh : List Ship) (t : Bool) (f : List Int) (hf : Feas sh f) (hl : sh.length ≤ 1000) : g_check_plan [.lst (sh.map Ship.d), planD t f] = some (.non, [none, none]) := by
  simp [ap_check_plan, d_check_plan, conflicts_eq sh t f hf hl, ms_conflicts, ms_check_plan]
theorem waiting_eq (sh : List Ship) (t : Bool) (f : List Int) (hf : Feas sh f) (hl : sh.length ≤ 1000) : g_waiting [.lst (sh.map Ship.d), planD t f] = some (.int (f.sum - (sh.map (·.r)).sum), [none, none]) := by
  have h := wcomp sh t f hl sh [] f [] [] rfl rfl hf.len rfl (by simp)
  simp at h
  have hi : intsD ((waits sh f).map .int) = some (waits sh f) := intsD_map _
  simp [ap_waiting, d_waiting, check_eq sh t f hf hl, ms_check_plan, h, hi, waits_sum sh f hf.len, ms_waiting]
/-! the waiting of an order -/
theorem picked (sh : List Ship) (o : List Nat) (ho : ∀ k ∈ o, k < sh.length) (hl : o.length ≤ 1000) (env : En) (i j : Nat) (hij : i ≠ j) (h0 : env[i]? = some (some (.lst (sh.map Ship.d)))) (hj : env[j]? = some none) :
    compL (gtN j) (fun env => some (true, env)) (eB gIx (eV i) (eV j)) [j] (o.map fun k : Nat => .int k) [] env = some ((pick sh o).map Ship.d, env) := by
  rw [compL_all (fun k : Nat => D.int k) (fun k => (ship sh k).d) o (fun k hk => ?_) (by omega)]
  · simp [pick]
  · have hjl : j < env.length := (List.getElem?_eq_some_iff.mp hj).1
    refine ⟨_, env.set j (some (.int k)), rfl, ?_, ?_⟩
    · simp [List.getElem?_set_ne (Ne.symm hij), h0, List.getElem?_set_self hjl, atI_map (ship_at (ho k hk))]
    · simp only [fgE_cons, fgE_nil, List.set_set]
      obtain ⟨_, e⟩ := List.getElem?_eq_some_iff.mp hj
      rw [← e, List.set_getElem_self]
theorem pos_pick {sh : List Ship} (hp : LPos sh) {o : List Nat} (ho : ∀ k ∈ o, k < sh.length) : LPos (pick sh o) := fun x hx => by
  obtain ⟨k, hk, rfl⟩ := List.mem_map.mp hx
  exact hp _ (List.mem_of_getElem? (ship_at (ho k hk)))
theorem law_waiting_eq (sh : List Ship) (hp : LPos sh) (o : List Nat) (ho : ∀ k ∈ o, k < sh.length) (hl : o.length ≤ 1000) (hs : sh.length ≤ 1000) : g__law_waiting [.lst (sh.map Ship.d), ordD o] = some (.int (tot sh o), [none, none]) := by
  have h1 := picked sh o ho hl [some (.lst (sh.map Ship.d)), some (ordD o), none, none, none] 0 3 (by omega) rfl rfl
  have h2 := law_starts_eq (pick sh o) (pos_pick hp ho) (by simpa [pick] using hl)
  have h3 : intsD ((starts (pick sh o)).map .int) = some (starts (pick sh o)) := intsD_map _
  have h4 : compL (gtN 4) (fun env => some (true, env)) x__law_waiting_2 [4] (sh.map Ship.d) [] [some (.lst (sh.map Ship.d)), some (ordD o), some (.lst ((starts (pick sh o)).map .int)), none, none] = some (sh.map fun x => D.int x.r, [some (.lst (sh.map Ship.d)), some (ordD o), some (.lst ((starts (pick sh o)).map .int)), none, none]) := by
    refine compL_all Ship.d (fun x => D.int x.r) sh (fun x hx => ⟨_, [some (.lst (sh.map Ship.d)), some (ordD o), some (.lst ((starts (pick sh o)).map .int)), none, some x.d], rfl, ?_, by simp⟩) (by omega)
    simp [x__law_waiting_2]
  simp only [ordD] at h1 h4 ⊢
  simp [ap__law_waiting, d__law_waiting, x__law_waiting_1, h1, h2, ms__law_starts, h3, h4, readies, tot, ms__law_waiting]
end Lk14
namespace Lk14
open PySem L2 DL
theorem add_ord (o : List Nat) (k : Nat) (h : o.length ≤ 1000) : gAdd (ordD o) (.tup [.int k]) = some (ordD (o ++ [k])) := by
  have hb : big (o.length + 1) = false := big_of (by omega)
  simp [ordD, hb]
/-- the orders that are longer by one, as the text's comprehension makes them -/
theorem longer (n : Nat) (o : List Nat) (hn : n ≤ 1000) (ho : o.length ≤ 1000) (a1 a2 a3 : Option D) : compL (gtN 5) k__law_orders_1 x__law_orders_1 [5] (rngD 0 n) [] [some (.int n), a1, a2, a3, some (ordD o), none] = some ((ext n o).map ordD, [some (.int n), a1, a2, a3, some (ordD o), none]) := by
  have h1 : big 1 = false := big_of (by omega)
  rw [rng_ints, compL_of (fun k : Nat => D.int k) (fun k => !o.contains k) (fun k => ordD (o ++ [k])) (List.range n) [] (fun k hk => ?_) (by simp; omega)]
  · simp [ext, left]
  · refine ⟨_, [some (.int n), a1, a2, a3, some (ordD o), some (.int k)], rfl, ?_, fun h => ⟨[some (.int n), a1, a2, a3, some (ordD o), some (.int k)], ?_, by simp⟩, fun h => by simp⟩
    · simp [k__law_orders_1, gIn_ord]
    · simp [x__law_orders_1, h1, add_ord o k ho]
theorem ext_len (n : Nat) (o : List Nat) : (ext n o).length ≤ n := by
  unfold ext left
  rw [List.length_map]
  have := List.length_filter_le (fun k => !o.contains k) (List.range n)
  simpa using this
theorem flat_len (n : Nat) : ∀ L : List (List Nat), (L.flatMap (ext n)).length ≤ n * L.length
  | [] => by simp
  | o :: L => by
    have h1 := flat_len n L
    have h2 := ext_len n o
    rw [List.flatMap_cons, List.length_append, List.length_cons, Nat.mul_succ]
    omega
theorem oloop (n : Nat) (hn : n ≤ 5) (a1 a2 : Option D) : ∀ (L acc : List (List Nat)), acc.length + n * L.length ≤ 20000 → (∀ o ∈ L, o.length ≤ 1000) →
    forL (gtN 4) b__law_orders_1 [4] (L.map ordD) [some (.int n), a1, a2, some (.lst (acc.map ordD)), none, none] = some (.nx [some (.int n), a1, a2, some (.lst ((acc ++ L.flatMap (ext n)).map ordD)), none, none])
  | [], acc, _, _ => by simp [forL_nil]
  | o :: L, acc, h, ho => by
    have hl := longer n o (by omega) (ho o List.mem_cons_self) a1 a2 (some (.lst (acc.map ordD)))
    have he := ext_len n o
    have hm : n * (L.length + 1) = n * L.length + n := Nat.mul_succ _ _
    rw [List.length_cons] at h
    have hb : big (acc.length + (ext n o).length) = false := big_of (by omega)
    have hnr : near (n : Int) = true := near_len (by omega)
    have ih := oloop n hn a1 a2 L (acc ++ ext n o) (by rw [List.length_append]; omega) fun o' ho' => ho o' (List.mem_cons_of_mem _ ho')
    rw [List.map_cons, forL_cons]
    simp [b__law_orders_1, hnr, hl, hb, turn]
    rw [List.map_append] at ih
    simp at ih
    exact ih
theorem ext_length {n : Nat} {o o' : List Nat} (h : o' ∈ ext n o) : o'.length = o.length + 1 := by
  obtain ⟨k, _, rfl⟩ := List.mem_map.mp h
  simp
theorem pow5 : ∀ {a : Nat}, a ≤ 5 → 5 ^ a ≤ 3125 := fun {a} h => by
  have : 5 ^ a ≤ 5 ^ 5 := Nat.pow_le_pow_right (by omega) h
  omega
theorem oouter (n : Nat) (hn : n ≤ 5) : ∀ (j a : Nat) (L : List (List Nat)), a + j = n → L.length ≤ 5 ^ a → (∀ o ∈ L, o.length = a) →
    forL (gtN 2) b__law_orders_2 [2, 3, 4] (rngD a n) [some (.int n), some (.lst (L.map ordD)), none, none, none, none] = some (.nx [some (.int n), some (.lst ((bfs n j L).map ordD)), none, none, none, none])
  | 0, a, L, h, _, _ => by rw [rng_nil (by omega)]; rfl
  | j + 1, a, L, h, hl, ho => by
    have h5 := pow5 (a := a) (by omega)
    have hm : n * L.length ≤ 5 * L.length := Nat.mul_le_mul_right _ hn
    have lp := oloop n hn (some (.lst (L.map ordD))) (some (.int a)) L [] (by simp; omega) (fun o h' => by rw [ho o h']; omega)
    have hf := flat_len n L
    have ih := oouter n hn j (a + 1) (L.flatMap (ext n)) (by omega) (by rw [Nat.pow_succ]; omega) (fun o h' => by
      obtain ⟨o0, h1, h2⟩ := List.mem_flatMap.mp h'
      rw [ext_length h2, ho o0 h1])
    have hb0 : big 0 = false := big_of (by omega)
    rw [rng_cons (by omega), forL_cons]
    simp at lp
    simp [b__law_orders_2, hb0, lp, turn]
    rw [bfs]
    simp at ih
    exact ih
theorem orders_eq (n : Nat) (hn : n ≤ 5) : g__law_orders [.int n] = some (.lst ((orders n).map ordD), [none]) := by
  have h := oouter n hn n 0 [[]] (by omega) (by simp) (by simp)
  have e : bfs n n [[]] = orders n := by rw [bfs_leaves]; simp [orders]
  have hb0 : big 0 = false := big_of (by omega)
  have hb1 : big 1 = false := big_of (by omega)
  have hnr : near (n : Int) = true := near_len (by omega)
  rw [e] at h
  have e0 : ordD [] = .tup [] := rfl
  simp [e0] at h
  simp [ap__law_orders, d__law_orders, hb0, hb1, hnr, h, ms__law_orders]
end Lk14
namespace Lk14
open PySem L2 DL
def bestD : Option (List Nat × Int) → D
  | none => .non
  | some (o, t) => .tup [ordD o, .int t]
abbrev stB (sh : List Ship) (b : Option (List Nat × Int)) (S : List (List Nat)) (a3 a4 a5 a6 : Option D) : En := [some (.lst (sh.map Ship.d)), some (bestD b), some (.lst (S.map ordD)), a3, a4, a5, a6, none, none]
theorem lcompB (sh : List Ship) (b : Option (List Nat × Int)) (S : List (List Nat)) (o : List Nat) (hn : sh.length ≤ 1000) : compL (gtN 7) k_best_order_1 x_best_order_1 [7] (rngD 0 sh.length) [] (stB sh b S (some (ordD o)) none none none) = some ((left sh.length o).map fun k : Nat => .int k, stB sh b S (some (ordD o)) none none none) := by
  rw [rng_ints, compL_of (fun k : Nat => D.int k) (fun k => !o.contains k) (fun k : Nat => D.int k) (List.range sh.length) [] (fun k hk => ?_) (by simp; omega)]
  · simp [left]
  · refine ⟨_, [some (.lst (sh.map Ship.d)), some (bestD b), some (.lst (S.map ordD)), some (ordD o), none, none, none, some (.int k), none], rfl, ?_, fun h => ⟨[some (.lst (sh.map Ship.d)), some (bestD b), some (.lst (S.map ordD)), some (ordD o), none, none, none, some (.int k), none], ?_, by simp⟩, fun h => by simp⟩
    · simp [k_best_order_1, gIn_ord]
    · simp [x_best_order_1]
theorem rcompB (sh : List Ship) (b : Option (List Nat × Int)) (S : List (List Nat)) (o : List Nat) (a4 : Option D) (ho : o.length ≤ 1000) (L : List Nat) (hL : L.length ≤ 1000) : compL (gtN 7) (fun env => some (true, env)) x_best_order_2 [7] (L.map fun k : Nat => .int k) [] (stB sh b S (some (ordD o)) a4 none none) = some ((L.map fun k => o ++ [k]).map ordD, stB sh b S (some (ordD o)) a4 none none) := by
  have h1 : big 1 = false := big_of (by omega)
  rw [compL_all (fun k : Nat => D.int k) (fun k => ordD (o ++ [k])) L (fun k hk => ?_) (by omega)]
  · simp
  · refine ⟨_, [some (.lst (sh.map Ship.d)), some (bestD b), some (.lst (S.map ordD)), some (ordD o), a4, none, none, some (.int k), none], rfl, ?_, by simp⟩
    simp [x_best_order_2, h1, add_ord o k ho]
theorem bodyB (sh : List Ship) (hs : sh.length ≤ 5) (hp : LPos sh) (b : Option (List Nat × Int)) (S : List (List Nat)) (o : List Nat) (h : Ord sh.length o) (hS : S.length + (ext sh.length o).length ≤ 1000) :
    ∃ e2, b_best_order_1 (stB sh b (S ++ [o]) none none none none) = some (.nx e2) ∧ fgE [3, 4, 5, 6] e2 = if o.length < sh.length then stB sh b (S ++ (ext sh.length o).reverse) none none none none else stB sh (upd (tot sh) b o) S none none none none := by
  have hol := h.le
  have l1 := lcompB sh b S o (by omega)
  have hn : near (sh.length : Int) = true := near_len (by omega)
  have hpop : ((S ++ [o]).map ordD).getLast? = some (ordD o) := by simp
  have hdrop : ((S ++ [o]).map ordD).dropLast = S.map ordD := by simp
  have hll := left_len h
  simp only [stB] at *
  by_cases hlt : o.length < sh.length
  · have hne : ((left sh.length o).map fun k : Nat => D.int k).isEmpty = false := by
      cases hL : left sh.length o with
      | nil => rw [hL] at hll; simp at hll; omega
      | cons => rfl
    have hrl : (left sh.length o).reverse.length ≤ 1000 := by rw [List.length_reverse]; omega
    have r1 := rcompB sh b S o (some (.lst ((left sh.length o).map fun k : Nat => .int k))) (by omega) (left sh.length o).reverse hrl
    simp only [stB] at r1
    have hb : big (S.length + (left sh.length o).length) = false := big_of (by omega)
    refine ⟨[some (.lst (sh.map Ship.d)), some (bestD b), some (.lst ((S ++ (ext sh.length o).reverse).map ordD)), some (ordD o), some (.lst ((left sh.length o).map fun k : Nat => .int k)), none, none, none, none], ?_, by simp [hlt]⟩
    have hne2 : ¬ left sh.length o = [] := fun e => by rw [e] at hll; simp at hll; omega
    simp [b_best_order_1, hn, l1, hne, hne2]
    simp at r1
    simp [r1, hb, ext]
  · have hle : o.length = sh.length := by omega
    have hnil : left sh.length o = [] := List.length_eq_zero_iff.mp (by omega)
    have p1 := picked sh o h.lt (by omega) [some (.lst (sh.map Ship.d)), some (bestD b), some (.lst (S.map ordD)), some (ordD o), some (.lst []), none, none, none, none] 0 7 (by omega) rfl rfl
    have p2 := starts_eq (pick sh o) (by simp [pick]; omega)
    have p3 : intsD ((starts (pick sh o)).map .int) = some (starts (pick sh o)) := intsD_map _
    have p4 : compL (gtN 8) (fun env => some (true, env)) x_best_order_4 [8] (sh.map Ship.d) [] [some (.lst (sh.map Ship.d)), some (bestD b), some (.lst (S.map ordD)), some (ordD o), some (.lst []), some (.tup ((starts (pick sh o)).map .int)), none, none, none] = some (sh.map fun x => D.int x.r, [some (.lst (sh.map Ship.d)), some (bestD b), some (.lst (S.map ordD)), some (ordD o), some (.lst []), some (.tup ((starts (pick sh o)).map .int)), none, none, none]) := by
      refine compL_all Ship.d (fun x => D.int x.r) sh (fun x hx => ⟨_, [some (.lst (sh.map Ship.d)), some (bestD b), some (.lst (S.map ordD)), some (ordD o), some (.lst []), some (.tup ((starts (pick sh o)).map .int)), none, none, some x.d], rfl, ?_, by simp⟩) (by omega)
      simp [x_best_order_4]
    have hsq : seqD (ordD o) = some (o.map fun k : Nat => .int k) := rfl
    have hb2 : big 2 = false := big_of (by omega)
    refine ⟨[some (.lst (sh.map Ship.d)), some (bestD (upd (tot sh) b o)), some (.lst (S.map ordD)), some (ordD o), some (.lst []), some (.tup ((starts (pick sh o)).map .int)), some (.int (tot sh o)), none, none], ?_, by simp [hlt]⟩
    rw [hnil] at l1
    cases b with
    | none =>
      simp only [bestD] at *
      simp [b_best_order_1, hn, l1, hnil, hsq, x_best_order_3, p1, p2, ms_starts, p3, p4, readies, upd, bestD, hb2, tot]
    | some q =>
      obtain ⟨o', t'⟩ := q
      simp only [bestD] at *
      by_cases ht : tot sh o < t'
      · have ht' : (starts (pick sh o)).sum - (sh.map (·.r)).sum < t' := ht
        simp [b_best_order_1, hn, l1, hnil, hsq, x_best_order_3, p1, p2, ms_starts, p3, p4, readies, upd, bestD, hb2, tot, ht']
      · have ht' : ¬ (starts (pick sh o)).sum - (sh.map (·.r)).sum < t' := ht
        simp [b_best_order_1, hn, l1, hnil, hsq, x_best_order_3, p1, p2, ms_starts, p3, p4, readies, upd, bestD, hb2, tot, ht']
theorem best_eq (sh : List Ship) (hs : sh.length ≤ 5) (hp : LPos sh) : g_best_order [.lst (sh.map Ship.d)] = some (bestD ((orders sh.length).foldl (upd (tot sh)) none), [none]) := by
  have w5 : wts sh.length [[]] ≤ 326 := by
    have : ∀ n : Nat, n ≤ 5 → wt n ≤ 326 := by decide
    simpa [wts] using this _ hs
  have init : ∃ b S, wts sh.length [[]] = wts sh.length S ∧ (∀ o ∈ S, Ord sh.length o) ∧ wts sh.length S ≤ 326 ∧ (rest sh.length S).foldl (upd (tot sh)) b = (orders sh.length).foldl (upd (tot sh)) none ∧ stB sh none [[]] none none none none = stB sh b S none none none none :=
    ⟨none, [[]], rfl, fun o ho => by simp at ho; subst ho; exact ⟨List.nodup_nil, by simp⟩, w5, by simp [rest, orders], rfl⟩
  obtain ⟨e', q1, q2⟩ := while_inv (c := bTr (eV 2)) (body := b_best_order_1) (m := [3, 4, 5, 6])
    (fun m e => ∃ b S, m = wts sh.length S ∧ (∀ o ∈ S, Ord sh.length o) ∧ wts sh.length S ≤ 326 ∧ (rest sh.length S).foldl (upd (tot sh)) b = (orders sh.length).foldl (upd (tot sh)) none ∧ e = stB sh b S none none none none)
    (fun e => e = stB sh ((orders sh.length).foldl (upd (tot sh)) none) [] none none none none) (by
    rintro m e ⟨b, S, hm, hO, hw, hf, he⟩
    subst he
    refine ⟨!(S.map ordD).isEmpty, stB sh b S none none none none, by simp [stB], fun hx => ?_, fun hx => ?_⟩
    · obtain ⟨S', o, rfl⟩ : ∃ S' o, S = S' ++ [o] := by
        rcases List.eq_nil_or_concat S with rfl | ⟨S', o, rfl⟩
        · simp at hx
        · exact ⟨S', o, by simp⟩
      have ho : Ord sh.length o := hO o (by simp)
      have hlen := wts_len sh.length (S' ++ [o])
      have hel := ext_len sh.length o
      simp at hlen
      obtain ⟨e2, a, c⟩ := bodyB sh hs hp b S' o ho (by omega)
      rw [wts_app] at hw hm
      have hwo : wts sh.length [o] = wt (sh.length - o.length) := by simp [wts]
      rw [rest_snoc, List.foldl_append] at hf
      refine ⟨e2, .inl a, ?_⟩
      by_cases hlt : o.length < sh.length
      · rw [if_pos hlt] at c
        have hwe := wts_ext ho hlt
        refine ⟨wts sh.length (S' ++ (ext sh.length o).reverse), by rw [wts_app]; omega, b, S' ++ (ext sh.length o).reverse, rfl, fun p hp' => ?_, by rw [wts_app]; omega, ?_, c⟩
        · rcases List.mem_append.mp hp' with hp' | hp'
          · exact hO p (by simp [hp'])
          · exact (ho.ext (List.mem_reverse.mp hp')).1
        · rw [rest_app, rest_ext ho hlt, List.foldl_append]; exact hf
      · rw [if_neg hlt] at c
        have hz : sh.length - o.length = 0 := by omega
        rw [hz] at hwo hf
        simp [wt] at hwo
        simp [leaves] at hf
        exact ⟨wts sh.length S', by omega, upd (tot sh) b o, S', rfl, fun p hp' => hO p (by simp [hp']), by omega, hf, c⟩
    · have hS : S = [] := by simpa using hx
      subst hS
      simp [rest] at hf
      rw [← hf]
      simp [stB]) (wts sh.length [[]]) (stB sh none [[]] none none none none) init
  subst q2
  have hb0 : big 0 = false := big_of (by omega)
  have hb1 : big 1 = false := big_of (by omega)
  have e0 : ordD [] = .tup [] := rfl
  have hbn : bestD none = .non := rfl
  simp [stB, hbn, e0] at q1
  simp [ap_best_order, d_best_order, hb0, hb1, q1, ms_best_order]
end Lk14
namespace Lk14
open PySem L2 DL
theorem rng_split {a n : Nat} {d : D} {ds : List D} (h : d :: ds = rngD a n) : a < n ∧ d = .int a ∧ ds = rngD ((a + 1 : Nat) : Int) n := by
  by_cases ha : a < n
  · rw [rng_cons (by omega)] at h
    obtain ⟨rfl, rfl⟩ := List.cons.inj h
    exact ⟨ha, rfl, by simp⟩
  · rw [rng_nil (by omega)] at h
    cases h
theorem rng_end {a n : Nat} (h : [] = rngD a n) : n ≤ a := by
  by_cases ha : a < n
  · rw [rng_cons (by omega)] at h
    cases h
  · omega
theorem feas_in (sh : List Ship) (hp : LPos sh) (hs : ∀ x ∈ sh, 0 < x.s) (f : List Int) (hf : f.length = sh.length) (k : Nat) (hk : k < sh.length) :
    (forL (gtN 3) b__law_is_feasible_1 [3] (rngD 0 k) [some (.lst (sh.map Ship.d)), some (planD true f), some (.int k), none] = some (.nx [some (.lst (sh.map Ship.d)), some (planD true f), some (.int k), none]) ∧ ∀ j < k, over (ship sh j) (fval f j) (ship sh k) (fval f k) = false) ∨
    forL (gtN 3) b__law_is_feasible_1 [3] (rngD 0 k) [some (.lst (sh.map Ship.d)), some (planD true f), some (.int k), none] = some (.rt (.bl false) [none, none, none, none]) := by
  have := forL_ret (set := gtN 3) (body := b__law_is_feasible_1) (m := [3])
    (fun ds e => ∃ a : Nat, ds = rngD a k ∧ (∀ j < a, j < k → over (ship sh j) (fval f j) (ship sh k) (fval f k) = false) ∧ e = [some (.lst (sh.map Ship.d)), some (planD true f), some (.int k), none])
    (fun d e => d = .bl false ∧ e = [none, none, none, none]) ?_ (rngD 0 k) [some (.lst (sh.map Ship.d)), some (planD true f), some (.int k), none] ⟨0, rfl, fun j hj => by omega, rfl⟩
  · rcases this with ⟨e', q, a, h1, h2, rfl⟩ | ⟨d, e', q, rfl, rfl⟩
    · exact .inl ⟨q, fun j hj => h2 j (by have := rng_end h1; omega) hj⟩
    · exact .inr q
  · rintro d ds e ⟨a, h1, h2, rfl⟩
    obtain ⟨ha, rfl, rfl⟩ := rng_split h1
    have hja : a < sh.length := by omega
    have m := meets_eq sh true f a k (ship sh a) (ship sh k) (fval f a) (fval f k) (ship_at hja) (ship_at hk) (fval_at (by omega)) (fval_at (by omega)) (hp _ (List.mem_of_getElem? (ship_at hja))) (hp _ (List.mem_of_getElem? (ship_at hk))) (hs _ (List.mem_of_getElem? (ship_at hja))) (hs _ (List.mem_of_getElem? (ship_at hk)))
    refine ⟨[some (.lst (sh.map Ship.d)), some (planD true f), some (.int k), some (.int a)], rfl, ?_⟩
    cases ho : over (ship sh a) (fval f a) (ship sh k) (fval f k) with
    | true =>
      refine .inr ⟨.bl false, [none, none, none, none], ?_, rfl, rfl⟩
      simp [b__law_is_feasible_1, m, ho, ms__law_meets]
    | false =>
      refine .inl ⟨[some (.lst (sh.map Ship.d)), some (planD true f), some (.int k), some (.int a)], .inl ?_, a + 1, rfl, fun j hj hjk => ?_, by simp⟩
      · simp [b__law_is_feasible_1, m, ho, ms__law_meets]
      · rcases Nat.lt_or_eq_of_le (Nat.le_of_lt_succ hj) with h | h
        · exact h2 j h hjk
        · subst h; exact ho
theorem feasible_eq (sh : List Ship) (hl : sh.length ≤ 1000) (hp : LPos sh) (hs : ∀ x ∈ sh, 0 < x.s) (f : List Int) (hf : f.length = sh.length) : ∃ b, g__law_is_feasible [.lst (sh.map Ship.d), planD true f] = some (.bl b, [none, none]) ∧ (b = true → Feas sh f) := by
  have hn : near (sh.length : Int) = true := near_len (by omega)
  have := forL_ret (set := gtN 2) (body := b__law_is_feasible_2) (m := [2, 3])
    (fun ds e => ∃ a : Nat, ds = rngD a sh.length ∧ (∀ k < a, k < sh.length → (ship sh k).r ≤ fval f k ∧ ∀ j < k, over (ship sh j) (fval f j) (ship sh k) (fval f k) = false) ∧ e = [some (.lst (sh.map Ship.d)), some (planD true f), none, none])
    (fun d e => d = .bl false ∧ e = [none, none, none, none]) ?_ (rngD 0 sh.length) [some (.lst (sh.map Ship.d)), some (planD true f), none, none] ⟨0, rfl, fun j hj => by omega, rfl⟩
  · rcases this with ⟨e', q, a, h1, h2, rfl⟩ | ⟨d, e', q, rfl, rfl⟩
    · refine ⟨true, by simp [ap__law_is_feasible, d__law_is_feasible, hn, q, ms__law_is_feasible], fun _ => ?_⟩
      have ha := rng_end h1
      refine ⟨hf, fun k x v hx hv => ?_, fun i j x y v w hij hx hy hv hw => ?_⟩
      · obtain ⟨hk, _⟩ := List.getElem?_eq_some_iff.mp hx
        rw [ship_at hk] at hx; cases hx
        rw [fval_at (by omega)] at hv; cases hv
        exact (h2 k (by omega) hk).1
      · obtain ⟨hi, _⟩ := List.getElem?_eq_some_iff.mp hx
        obtain ⟨hj, _⟩ := List.getElem?_eq_some_iff.mp hy
        rw [ship_at hi] at hx; cases hx
        rw [ship_at hj] at hy; cases hy
        rw [fval_at (by omega)] at hv; cases hv
        rw [fval_at (by omega)] at hw; cases hw
        exact (h2 j (by omega) hj).2 i hij
    · exact ⟨false, by simp [ap__law_is_feasible, d__law_is_feasible, hn, q, ms__law_is_feasible], fun h => by cases h⟩
  · rintro d ds e ⟨a, h1, h2, rfl⟩
    obtain ⟨ha, rfl, rfl⟩ := rng_split h1
    have hna : near (a : Int) = true := near_len (by omega)
    refine ⟨[some (.lst (sh.map Ship.d)), some (planD true f), some (.int a), none], rfl, ?_⟩
    by_cases hr : fval f a < (ship sh a).r
    · refine .inr ⟨.bl false, [none, none, none, none], ?_, rfl, rfl⟩
      simp [b__law_is_feasible_2, ixP (fval_at (f := f) (k := a) (by omega)), atI_map (ship_at ha), hr]
    · rcases feas_in sh hp hs f hf a ha with ⟨q, hq⟩ | q
      · refine .inl ⟨[some (.lst (sh.map Ship.d)), some (planD true f), some (.int a), none], .inl ?_, a + 1, rfl, fun k hk hks => ?_, by simp⟩
        · simp [b__law_is_feasible_2, ixP (fval_at (f := f) (k := a) (by omega)), atI_map (ship_at ha), hr, hna, q]
        · rcases Nat.lt_or_eq_of_le (Nat.le_of_lt_succ hk) with h | h
          · exact h2 k h hks
          · subst h; exact ⟨by omega, hq⟩
      · refine .inr ⟨.bl false, [none, none, none, none], ?_, rfl, rfl⟩
        simp [b__law_is_feasible_2, ixP (fval_at (f := f) (k := a) (by omega)), atI_map (ship_at ha), hr, hna, q]
end Lk14
namespace Lk14
open PySem L2 DL
def px (low : Int) (f : List Int) : List (List Int) := (List.range 11).map fun i : Nat => f ++ [low + i]
def pall (low : Int) : Nat → List (List Int) → List (List Int)
  | 0, L => L
  | m + 1, L => pall low m (L.flatMap (px low))
abbrev stN (sh : List Ship) (least low : Int) (a3 a4 a5 a6 : Option D) : En := [some (.lst (sh.map Ship.d)), some (.int least), some (.int low), a3, a4, a5, a6, none, none, none]
theorem rng11 (low : Int) : rngD low (low + 11) = (List.range 11).map fun i : Nat => .int (low + i) := by
  unfold rngD
  rw [show (low + 11 - low).toNat = 11 by omega]
theorem pcomp (sh : List Ship) (least low : Int) (a3 a4 a5 : Option D) (f : List Int) (hf : f.length ≤ 1000) : compL (gtN 9) (fun env => some (true, env)) x__law_no_better_2 [9] (rngD low (low + 11)) [] (stN sh least low a3 a4 a5 (some (planD true f))) = some ((px low f).map (planD true), stN sh least low a3 a4 a5 (some (planD true f))) := by
  have h1 : big 1 = false := big_of (by omega)
  have h2 : big (f.length + 1) = false := big_of (by omega)
  rw [rng11, compL_all (fun i : Nat => D.int (low + i)) (fun i => planD true (f ++ [low + i])) (List.range 11) (fun k hk => ?_) (by simp)]
  · simp [px]
  · refine ⟨_, [some (.lst (sh.map Ship.d)), some (.int least), some (.int low), a3, a4, a5, some (planD true f), none, none, some (.int (low + k))], rfl, ?_, by simp⟩
    simp [x__law_no_better_2, h1, planD, h2]
theorem px_len (low : Int) (f : List Int) : (px low f).length = 11 := by simp [px]
theorem pflat_len (low : Int) : ∀ L : List (List Int), (L.flatMap (px low)).length = 11 * L.length
  | [] => rfl
  | f :: L => by rw [List.flatMap_cons, List.length_append, px_len, pflat_len low L, List.length_cons]; omega
theorem ploop (sh : List Ship) (least low : Int) (h1 : near low = true) (h2 : near (low + 11) = true) (a3 a4 : Option D) : ∀ (L acc : List (List Int)), acc.length + 11 * L.length ≤ 20000 → (∀ f ∈ L, f.length ≤ 1000) →
    forL (gtN 6) b__law_no_better_1 [6] (L.map (planD true)) (stN sh least low a3 a4 (some (.lst (acc.map (planD true)))) none) = some (.nx (stN sh least low a3 a4 (some (.lst ((acc ++ L.flatMap (px low)).map (planD true)))) none))
  | [], acc, _, _ => by simp [forL_nil]
  | f :: L, acc, h, ho => by
    have hl := pcomp sh least low a3 a4 (some (.lst (acc.map (planD true)))) f (ho f List.mem_cons_self)
    rw [List.length_cons] at h
    have hb : big (acc.length + 11) = false := big_of (by omega)
    have ih := ploop sh least low h1 h2 a3 a4 L (acc ++ px low f) (by rw [List.length_append, px_len]; omega) fun o' ho' => ho o' (List.mem_cons_of_mem _ ho')
    rw [List.map_cons, forL_cons]
    simp only [stN] at *
    simp [b__law_no_better_1, h1, h2, hl, px_len, hb, turn]
    rw [List.map_append] at ih
    simp at ih
    exact ih
theorem pow11 : ∀ {a : Nat}, a ≤ 2 → 11 ^ a ≤ 121 := fun {a} h => by
  have : 11 ^ a ≤ 11 ^ 2 := Nat.pow_le_pow_right (by omega) h
  omega
theorem pouter (sh : List Ship) (least low : Int) (h1 : near low = true) (h2 : near (low + 11) = true) (hs : sh.length ≤ 3) : ∀ (j a : Nat) (L : List (List Int)), a + j = sh.length → L.length ≤ 11 ^ a → (∀ f ∈ L, f.length = a) →
    ∃ L' : List (List Int), (∀ f ∈ L', f.length = sh.length) ∧ forL (gtN 4) b__law_no_better_2 [4, 5, 6] (rngD a sh.length) (stN sh least low (some (.lst (L.map (planD true)))) none none none) = some (.nx (stN sh least low (some (.lst (L'.map (planD true)))) none none none))
  | 0, a, L, h, _, ho => ⟨L, fun f hf => by rw [ho f hf]; omega, by rw [rng_nil (by omega)]; rfl⟩
  | j + 1, a, L, h, hl, ho => by
    have h5 := pow11 (a := a) (by omega)
    have lp := ploop sh least low h1 h2 (some (.lst (L.map (planD true)))) (some (.int a)) L [] (by simp; omega) (fun o h' => by rw [ho o h']; omega)
    have hf := pflat_len low L
    obtain ⟨L', q1, q2⟩ := pouter sh least low h1 h2 hs j (a + 1) (L.flatMap (px low)) (by omega) (by rw [Nat.pow_succ]; omega) (fun o h' => by
      obtain ⟨o0, g1, g2⟩ := List.mem_flatMap.mp h'
      obtain ⟨i, _, rfl⟩ := List.mem_map.mp g2
      simp [ho o0 g1])
    refine ⟨L', q1, ?_⟩
    have hb0 : big 0 = false := big_of (by omega)
    rw [rng_cons (by omega), forL_cons]
    simp only [stN] at *
    simp at lp
    simp [b__law_no_better_2, hb0, lp, turn]
    simp at q2
    exact q2
theorem no_better_eq (sh : List Ship) (hl : sh.length ≤ 3) (hne : sh ≠ []) (hp : LPos sh) (hs : ∀ x ∈ sh, 0 < x.s) (hr : ∀ x ∈ sh, 0 ≤ x.r ∧ x.r ≤ 100000) (least : Int) (hb : ∀ f, Feas sh f → least ≤ f.sum - (sh.map (·.r)).sum) :
    g__law_no_better [.lst (sh.map Ship.d), .int least] = some (.bl true, [none, none]) := by
  have hrne : sh.map (·.r) ≠ [] := by simpa using hne
  have hmem := minI_mem hrne
  obtain ⟨low, hlow⟩ : ∃ low, low = minI (sh.map (·.r)) := ⟨_, rfl⟩
  rw [← hlow] at hmem
  obtain ⟨x0, hx0, hx1⟩ := List.mem_map.mp hmem
  have hx2 := hr x0 hx0
  have n1 : near low = true := near_of (by omega) (by omega)
  have n2 : near (low + 11) = true := near_of (by omega) (by omega)
  have hn : near (sh.length : Int) = true := near_len (by omega)
  obtain ⟨L', q1, q2⟩ := pouter sh least low n1 n2 hl sh.length 0 [[]] (by omega) (by simp) (by simp)
  have c1 : compL (gtN 8) (fun env => some (true, env)) x__law_no_better_1 [8] (sh.map Ship.d) [] [some (.lst (sh.map Ship.d)), some (.int least), none, none, none, none, none, none, none, none] = some (sh.map fun x => D.int x.r, [some (.lst (sh.map Ship.d)), some (.int least), none, none, none, none, none, none, none, none]) := by
    refine compL_all Ship.d (fun x => D.int x.r) sh (fun x hx => ⟨_, [some (.lst (sh.map Ship.d)), some (.int least), none, none, none, none, none, none, some x.d, none], rfl, ?_, by simp⟩) (by omega)
    simp [x__law_no_better_1]
  obtain ⟨e', r1, a, L2, r2, r3, r4⟩ := forL_inv (set := gtN 6) (body := b__law_no_better_3) (m := [7])
    (fun ds e => ∃ (a6 : Option D) (L : List (List Int)), ds = L.map (planD true) ∧ (∀ f ∈ L, f.length = sh.length) ∧ e = [some (.lst (sh.map Ship.d)), some (.int least), some (.int low), some (.lst (L'.map (planD true))), none, none, a6, none, none, none])
    (by
      rintro d ds e ⟨a6, L, e1, e2, rfl⟩
      cases L with
      | nil => cases e1
      | cons f L =>
      rw [List.map_cons] at e1
      obtain ⟨rfl, rfl⟩ := List.cons.inj e1
      have hf := e2 f List.mem_cons_self
      obtain ⟨b, fe, fb⟩ := feasible_eq sh (by omega) hp hs f hf
      have c3 : compL (gtN 8) (fun env => some (true, env)) x__law_no_better_3 [8] (sh.map Ship.d) [] [some (.lst (sh.map Ship.d)), some (.int least), some (.int low), some (.lst (L'.map (planD true))), none, none, some (planD true f), none, none, none] = some (sh.map fun x => D.int x.r, [some (.lst (sh.map Ship.d)), some (.int least), some (.int low), some (.lst (L'.map (planD true))), none, none, some (planD true f), none, none, none]) := by
        refine compL_all Ship.d (fun x => D.int x.r) sh (fun x hx => ⟨_, [some (.lst (sh.map Ship.d)), some (.int least), some (.int low), some (.lst (L'.map (planD true))), none, none, some (planD true f), none, some x.d, none], rfl, ?_, by simp⟩) (by omega)
        simp [x__law_no_better_3]
      have gs : gSum (planD true f) = some (.int f.sum) := by
        have := intsD_map f
        simp [planD, this]
      refine ⟨[some (.lst (sh.map Ship.d)), some (.int least), some (.int low), some (.lst (L'.map (planD true))), none, none, some (planD true f), none, none, none], [some (.lst (sh.map Ship.d)), some (.int least), some (.int low), some (.lst (L'.map (planD true))), none, none, some (planD true f), some (.int (f.sum - (sh.map (·.r)).sum)), none, none], by simp, .inl ?_, some (planD true f), L, rfl, fun g hg => e2 g (List.mem_cons_of_mem _ hg), by simp⟩
      by_cases hlt : f.sum - (sh.map (·.r)).sum < least
      · have hbf : b = false := by
          cases b with
          | false => rfl
          | true => have := hb f (fb rfl); omega
        subst hbf
        simp [b__law_no_better_3, gs, c3, readies, hlt, fe, ms__law_is_feasible]
      · simp [b__law_no_better_3, gs, c3, readies, hlt])
    (L'.map (planD true)) [some (.lst (sh.map Ship.d)), some (.int least), some (.int low), some (.lst (L'.map (planD true))), none, none, none, none, none, none] ⟨none, L', rfl, q1, rfl⟩
  subst r4
  have hb0 : big 0 = false := big_of (by omega)
  have hb1 : big 1 = false := big_of (by omega)
  have e0 : planD true [] = .tup [] := rfl
  simp only [stN] at q2
  simp [e0] at q2
  have hne2 : ¬ sh = [] := hne
  simp [ap__law_no_better, d__law_no_better, c1, readies, hrne, hne2, ← hlow, hb0, hb1, hn, q2, r1, ms__law_no_better]
end Lk14
namespace Lk14
open PySem L2 DL
structure Ok (x : Ship) : Prop where
  l : 0 < x.l
  r0 : 0 ≤ x.r
  r1 : x.r ≤ 100000
  s : 0 < x.s
theorem three {r : Int} (h0 : 0 ≤ r) (h1 : r < 3) : ∃ c, atI [D.int 4, .int 25, .int 1000] r = some (.int c) ∧ 1 ≤ c ∧ c ≤ 1000 := by
  have : r = 0 ∨ r = 1 ∨ r = 2 := by omega
  rcases this with rfl | rfl | rfl
  · exact ⟨4, rfl, by omega, by omega⟩
  · exact ⟨25, rfl, by omega, by omega⟩
  · exact ⟨1000, rfl, by omega, by omega⟩
theorem one_ship (p : D) (hp : Pool p) (B m k : Int) (hB : 1 ≤ B) (hB2 : B ≤ 12) (sh : List Ship) (hl : sh.length ≤ 1000) :
    ∃ (x : Ship) (p' : D) (a5 a6 : Option D), Ok x ∧ Pool p' ∧ b__law_ships_1 [some p, some (.int B), some (.int m), some (.lst (sh.map Ship.d)), some (.int k), none, none] = some (.nx [some p', some (.int B), some (.int m), some (.lst ((sh ++ [x]).map Ship.d)), some (.int k), a5, a6]) := by
  obtain ⟨r1, p1, e1, a1, b1, h1⟩ := take_ok hp hB (by omega)
  obtain ⟨r2, p2, e2, a2, b2, h2⟩ := take_ok (m := B - r1) h1 (by omega) (by omega)
  obtain ⟨r3, p3, e3, a3, b3, h3⟩ := take_ok (m := 3) h2 (by omega) (by omega)
  obtain ⟨c, ec, c1, c2⟩ := three a3 b3
  obtain ⟨r4, p4, e4, a4, b4, h4⟩ := take_ok (m := c) h3 c1 (by omega)
  obtain ⟨r5, p5, e5, a5, b5, h5⟩ := take_ok (m := 12) h4 (by omega) (by omega)
  have hb3 : big 3 = false := big_of (by omega)
  have hb4 : big 4 = false := big_of (by omega)
  have hbl : big (sh.length + 1) = false := big_of (by omega)
  refine ⟨⟨r1, 1 + r2, r4, 1 + r5⟩, p5, some (.int r1), some (.int (1 + r2)), ⟨by show 0 < 1 + r2; omega, a4, by show r4 ≤ 100000; omega, by show 0 < 1 + r5; omega⟩, h5, ?_⟩
  simp [b__law_ships_1, take_eq, e1, e2, e3, ec, e4, e5, ms__law_take, hb3, hb4, hbl, Ship.d]
theorem ships_eq (p : D) (hp : Pool p) (B : Int) (hB : 1 ≤ B) (hB2 : B ≤ 12) : ∃ (sh : List Ship) (p' : D), g__law_ships [p, .int B, .int 4] = some (.lst (sh.map Ship.d), [some p', none, none]) ∧ Pool p' ∧ sh.length ≤ 4 ∧ ∀ x ∈ sh, Ok x := by
  obtain ⟨r0, p0, e0, a0, b0, h0⟩ := take_ok (m := 5) hp (by omega) (by omega)
  obtain ⟨m, rfl⟩ : ∃ m : Nat, r0 = m := ⟨r0.toNat, by omega⟩
  have hnr : near (m : Int) = true := near_len (by omega)
  have hb0 : big 0 = false := big_of (by omega)
  obtain ⟨e', q1, a, sh, p', k1, k2, k3, k4, rfl⟩ := forL_inv (set := gtN 4) (body := b__law_ships_1) (m := [4, 5, 6])
    (fun ds e => ∃ (a : Nat) (sh : List Ship) (p' : D), ds = rngD a m ∧ sh.length = min a m ∧ Pool p' ∧ (∀ x ∈ sh, Ok x) ∧ e = [some p', some (.int B), some (.int 4), some (.lst (sh.map Ship.d)), none, none, none])
    (by
      rintro d ds e ⟨a, sh, p', k1, k2, k3, k4, rfl⟩
      obtain ⟨ha, rfl, rfl⟩ := rng_split k1
      obtain ⟨x, p2, a5, a6, hx, hp2, eb⟩ := one_ship p' k3 B 4 a hB hB2 sh (by omega)
      refine ⟨_, _, rfl, .inl eb, a + 1, sh ++ [x], p2, rfl, by simp; omega, hp2, fun y hy => ?_, by simp⟩
      rcases List.mem_append.mp hy with hy | hy
      · exact k4 y hy
      · simp at hy; subst hy; exact hx)
    (rngD 0 m) [some p0, some (.int B), some (.int 4), some (.lst []), none, none, none] ⟨0, [], p0, rfl, by simp, h0, by simp, rfl⟩
  refine ⟨sh, p', ?_, k3, by omega, k4⟩
  simp [ap__law_ships, d__law_ships, hb0, take_eq, e0, ms__law_take, hnr, q1, ms__law_ships]
end Lk14
namespace Lk14
open PySem L2 DL
noncomputable def tailL : SX :=
  (sSeq (sSet 5 (eC .non))
  (sSeq (sFor (iSeq (eCall ms__law_orders [.v] g__law_orders (aC (eU gLen (eV 3)) aN))) (gtN 6) b_law_1 [6, 7])
  (sSeq (sIf (bNot (bT (eCall ms__law_same [.v, .v] g__law_same (aC (eCall ms_best_order [.v] g_best_order (aC (eV 3) aN)) (aC (eV 5) aN)))))
  (sRetF [0, 1, 2, 3, 4, 5, 6, 7, 8, 9, 10, 11] (eC (.bl false)))
  sNil)
  (sSeq (sSet 8 (eCall ms_starts [.v] g_starts (aC (eLc (iSeq (eB gIx (eV 5) (eC (.int 0)))) (gtN 10) (fun env => some (true, env)) x_law_2 [10]) aN)))
  (sSeq (sSet 9 (eLc (iRng gRng1 (aC (eU gLen (eV 3)) aN)) (gtN 10) (fun env => some (true, env)) x_law_3 [10]))
  (sSeq (sIf (bOr (bNot (bT (eCall ms__law_same [.v, .v] g__law_same (aC (eCall ms_conflicts [.v, .v] g_conflicts (aC (eV 3) (aC (eV 9) aN))) (aC (eA gTup (aC (eA gTup aN) (aC (eA gTup aN) aN))) aN))))) (bNot (bT (eCall ms__law_same [.v, .v] g__law_same (aC (eCall ms_waiting [.v, .v] g_waiting (aC (eV 3) (aC (eV 9) aN))) (aC (eB gIx (eV 5) (eC (.int 1))) aN))))))
  (sRetF [0, 1, 2, 3, 4, 5, 6, 7, 8, 9, 10, 11] (eC (.bl false)))
  sNil)
  (sRetF [0, 1, 2, 3, 4, 5, 6, 7, 8, 9, 10, 11] (vOr (eU gNot (eV 4)) (eCall ms__law_no_better [.v, .v] g__law_no_better (aC (eV 3) (aC (eB gIx (eV 5) (eC (.int 1))) aN)))))))))))
theorem d_law_eq : d_law = (sSeq (sSet 1 (eCall ms__law_pool [.s 0] g__law_pool (aS 0 aN)))
  (sSeq (sSet 2 (eB gAdd (eC (.int 1)) (eCall ms__law_take [.s 1, .v] g__law_take (aS 1 (aC (eC (.int 12)) aN)))))
  (sSeq (sSet 3 (eB gCat (eCall ms__law_ships [.s 1, .v, .v] g__law_ships (aS 1 (aC (eV 2) (aC (eC (.int 4)) aN)))) (eA gLst (aC (eA gTup (aC (eC (.int 0)) (aC (eB gAdd (eC (.int 1)) (eCall ms__law_take [.s 1, .v] g__law_take (aS 1 (aC (eV 2) aN)))) (aC (eCall ms__law_take [.s 1, .v] g__law_take (aS 1 (aC (eC (.int 9)) aN))) (aC (eB gAdd (eC (.int 1)) (eCall ms__law_take [.s 1, .v] g__law_take (aS 1 (aC (eC (.int 9)) aN)))) aN))))) aN))))
  (sSeq (sSet 4 (eB gEq (eCall ms__law_take [.s 1, .v] g__law_take (aS 1 (aC (eC (.int 3)) aN))) (eC (.int 0))))
  (sSeq (sIf (bT (eV 4))
  (sSet 3 (eLc (iSeq (eSl (eV 3) (oI (eU gNeg (eC (.int 3)))) (fun env => some (none, env)))) (gtN 11) (fun env => some (true, env)) x_law_1 [11]))
  sNil) tailL))))) := rfl
theorem find_ord (k : Nat) : ∀ o : List Nat, k ∈ o → (o.map fun k : Nat => D.int k).findIdx? (fun z => eqF z (.int k)) = some (o.idxOf k)
  | [], h => by simp at h
  | a :: o, h => by
    have e : eqF (.int a) (.int k) = (a == k) := by
      show ((a : Int) == (k : Int)) = (a == k)
      rw [Bool.eq_iff_iff]; simp; omega
    rw [List.map_cons, List.findIdx?_cons, e, List.idxOf_cons]
    cases hak : (a == k) with
    | true => simp
    | false =>
      have hk : k ∈ o := by
        rcases List.mem_cons.mp h with rfl | h
        · simp at hak
        · exact h
      simp [find_ord k o hk]
theorem index_ord {k : Nat} {o : List Nat} (h : k ∈ o) : gTIndex (ordD o) [.int k] = some (.int (o.idxOf k)) := by
  have h1 : (o.map fun k : Nat => D.int k).all flatD = true := by simp [flatD]
  have h2 : flatD (.int k) = true := rfl
  simp only [gTIndex, ordD, gIx1, h1, h2, and_self, if_true, find_ord k o h, Option.map_some]
theorem all_int (o : List Nat) : (o.map fun k : Nat => D.int k).all (plainD 5) = true := by simp [plainD]
theorem same_best (o : List Nat) (t : Int) (ho : o.length ≤ 1000) : rSame 8 [.tup [ordD o, .int t], .tup [ordD o, .int t]] = some (.bl true, [none, none]) := by
  refine same_refl 7 _ ?_
  have h : o.length ≤ 16777216 := by omega
  simp [plainD, ordD, h]
theorem same_int (t : Int) : rSame 8 [.int t, .int t] = some (.bl true, [none, none]) := same_flat 7 _ (.inr (.inr ⟨t, rfl⟩))
theorem same_none : rSame 8 [.tup [.tup [], .tup []], .tup [.tup [], .tup []]] = some (.bl true, [none, none]) := same_refl 7 _ (by simp [plainD])
theorem tail_eq (s p : D) (B : Int) (sh : List Ship) (small : Bool) (hl : sh.length ≤ 5) (hne : sh ≠ []) (hok : ∀ x ∈ sh, Ok x) (hsm : small = true → sh.length ≤ 3) :
    ∃ e, tailL [some s, some p, some (.int B), some (.lst (sh.map Ship.d)), some (.bl small), none, none, none, none, none, none, none] = some (.rt (.bl true) e) := by
  have hp : LPos sh := fun x hx => (hok x hx).l
  have hs : ∀ x ∈ sh, 0 < x.s := fun x hx => (hok x hx).s
  have oe := orders_eq sh.length hl
  -- the loop over the orders
  obtain ⟨e', q1, b, L, k1, k2, k3, rfl⟩ := forL_inv (set := gtN 6) (body := b_law_1) (m := [6, 7])
    (fun ds e => ∃ (b : Option (List Nat × Int)) (L : List (List Nat)), ds = L.map ordD ∧ (∀ o ∈ L, o ∈ orders sh.length) ∧ L.foldl (upd (tot sh)) b = (orders sh.length).foldl (upd (tot sh)) none ∧ e = [some s, some p, some (.int B), some (.lst (sh.map Ship.d)), some (.bl small), some (bestD b), none, none, none, none, none, none])
    (by
      rintro d ds e ⟨b, L, k1, k2, k3, rfl⟩
      cases L with
      | nil => cases k1
      | cons o L =>
      rw [List.map_cons] at k1
      obtain ⟨rfl, rfl⟩ := List.cons.inj k1
      have ho := mem_orders.mp (k2 o List.mem_cons_self)
      have w := law_waiting_eq sh hp o ho.1.lt (by omega) (by omega)
      have hb2 : big 2 = false := big_of (by omega)
      refine ⟨[some s, some p, some (.int B), some (.lst (sh.map Ship.d)), some (.bl small), some (bestD b), some (ordD o), none, none, none, none, none], [some s, some p, some (.int B), some (.lst (sh.map Ship.d)), some (.bl small), some (bestD (upd (tot sh) b o)), some (ordD o), some (.int (tot sh o)), none, none, none, none], by simp, .inl ?_, upd (tot sh) b o, L, rfl, fun o' h' => k2 o' (List.mem_cons_of_mem _ h'), k3, by simp⟩
      cases b with
      | none => simp [b_law_1, w, ms__law_waiting, upd, bestD, hb2]
      | some q =>
        obtain ⟨o', t'⟩ := q
        by_cases ht : tot sh o < t'
        · simp [b_law_1, w, ms__law_waiting, upd, bestD, hb2, ht]
        · simp [b_law_1, w, ms__law_waiting, upd, bestD, hb2, ht])
    ((orders sh.length).map ordD) [some s, some p, some (.int B), some (.lst (sh.map Ship.d)), some (.bl small), some .non, none, none, none, none, none, none] ⟨none, orders sh.length, rfl, fun o h => h, rfl, rfl⟩
  have hL : L = [] := by cases L with | nil => rfl | cons => cases k1
  subst hL
  obtain ⟨o, f1, f2, f3⟩ := upd_none (tot sh) (orders sh.length) (orders_pos _)
  have k3 : b = (orders sh.length).foldl (upd (tot sh)) none := k3
  rw [f1] at k3
  subst k3
  have be := best_eq sh hl hp
  rw [f1] at be
  have ho := mem_orders.mp f2
  have sb := same_best o (tot sh o) (by omega)
  have hsq : seqD (ordD o) = some (o.map fun k : Nat => .int k) := rfl
  have p1 := picked sh o ho.1.lt (by omega) [some s, some p, some (.int B), some (.lst (sh.map Ship.d)), some (.bl small), some (.tup [ordD o, .int (tot sh o)]), none, none, none, none, none, none] 3 10 (by omega) rfl rfl
  have p2 := starts_eq (pick sh o) (by simp [pick]; omega)
  have hn : near (sh.length : Int) = true := near_len (by omega)
  have p3 : compL (gtN 10) (fun env => some (true, env)) x_law_3 [10] (rngD 0 sh.length) [] [some s, some p, some (.int B), some (.lst (sh.map Ship.d)), some (.bl small), some (.tup [ordD o, .int (tot sh o)]), none, none, some (.tup ((starts (pick sh o)).map .int)), none, none, none] = some ((plan sh o).map .int, [some s, some p, some (.int B), some (.lst (sh.map Ship.d)), some (.bl small), some (.tup [ordD o, .int (tot sh o)]), none, none, some (.tup ((starts (pick sh o)).map .int)), none, none, none]) := by
    rw [rng_ints, compL_all (fun k : Nat => D.int k) (fun k => .int (fval (starts (pick sh o)) (o.idxOf k))) (List.range sh.length) (fun k hk => ?_) (by simp; omega)]
    · simp [plan]
    · have hk := List.mem_range.mp hk
      have hko : k ∈ o := (orders_perm f2).mem_iff.mpr (List.mem_range.mpr hk)
      have hi := List.idxOf_lt_length_of_mem hko
      have hat : atI ((starts (pick sh o)).map D.int) ((o.idxOf k : Nat) : Int) = some (.int (fval (starts (pick sh o)) (o.idxOf k))) := atI_map (fval_at (by rw [starts_len]; simpa [pick] using hi))
      have hit : isTup (ordD o) = true := rfl
      refine ⟨_, [some s, some p, some (.int B), some (.lst (sh.map Ship.d)), some (.bl small), some (.tup [ordD o, .int (tot sh o)]), none, none, some (.tup ((starts (pick sh o)).map .int)), none, some (.int k), none], rfl, ?_, by simp⟩
      simp [x_law_3, hit, index_ord hko, hat]
  have hf := plan_feas sh hs o f2
  have ce : g_conflicts [.lst (sh.map Ship.d), .lst ((plan sh o).map .int)] = _ := conflicts_eq sh false (plan sh o) hf (by omega)
  have we : g_waiting [.lst (sh.map Ship.d), .lst ((plan sh o).map .int)] = _ := waiting_eq sh false (plan sh o) hf (by omega)
  have hw : (plan sh o).sum - (sh.map (·.r)).sum = tot sh o := by rw [plan_sum sh o f2]; rfl
  rw [hw] at we
  have hb0 : big 0 = false := big_of (by omega)
  have hb2 : big 2 = false := big_of (by omega)
  have hbd : bestD (some (o, tot sh o)) = .tup [ordD o, .int (tot sh o)] := rfl
  rw [hbd] at be q1
  have si := same_int (tot sh o)
  have sn := same_none
  cases small with
  | false =>
    refine ⟨[none, none, none, none, none, none, none, none, none, none, none, none], ?_⟩
    simp [tailL, oe, ms__law_orders, q1, be, sb, same_eq, ms__law_same, ms_best_order, hsq, x_law_2, p1, p2, ms_starts, hn, p3, ce, we, ms_conflicts, ms_waiting, hb0, hb2, si, sn]
  | true =>
    have nb := no_better_eq sh (hsm rfl) hne hp hs (fun x hx => ⟨(hok x hx).r0, (hok x hx).r1⟩) (tot sh o) (fun f hf => by
      obtain ⟨o2, g1, g2⟩ := least sh hs f hf
      have := f3 o2 g1
      omega)
    refine ⟨[none, none, none, none, none, none, none, none, none, none, none, none], ?_⟩
    simp [tailL, oe, ms__law_orders, q1, be, sb, same_eq, ms__law_same, ms_best_order, hsq, x_law_2, p1, p2, ms_starts, hn, p3, ce, we, ms_conflicts, ms_waiting, hb0, hb2, si, sn, nb, ms__law_no_better]
end Lk14
namespace Lk14
open PySem L2 DL
theorem cut3 (sh : List Ship) : cutD (sh.map Ship.d) (some (-3)) none = (sh.drop (sh.length - 3)).map Ship.d := by
  unfold cutD
  have h1 : HT.sIx (sh.map Ship.d).length 0 (some (-3)) = sh.length - 3 := by
    show (if (-3 : Int) < 0 then ((-3 : Int) + ((sh.map Ship.d).length : Int)).toNat else min (-3 : Int).toNat (sh.map Ship.d).length) = _
    rw [if_pos (by omega), List.length_map]
    omega
  have h2 : HT.sIx (sh.map Ship.d).length (sh.map Ship.d).length none = sh.length := by
    show (sh.map Ship.d).length = _
    rw [List.length_map]
  rw [h1, h2, ← List.map_drop, List.take_of_length_le (by simp)]
def cutS (x : Ship) : Ship := ⟨x.p, x.l, x.r - x.r / 4 * 4, 1 + x.s - x.s / 3 * 3⟩
theorem plain (ns : List Int) (h : ns.length ≤ 63) : ∃ e, g_law [.lst (ns.map .int)] = some (.bl true, e) := by
  obtain ⟨p, ep, hp⟩ := pool_ok ns h
  obtain ⟨r1, p1, e1, a1, b1, h1⟩ := take_ok (m := 12) hp (by omega) (by omega)
  obtain ⟨sh0, p2, e2, h2, l2, ok2⟩ := ships_eq p1 h1 (1 + r1) (by omega) (by omega)
  obtain ⟨r3, p3, e3, a3, b3, h3⟩ := take_ok (m := 1 + r1) h2 (by omega) (by omega)
  obtain ⟨r4, p4, e4, a4, b4, h4⟩ := take_ok (m := 9) h3 (by omega) (by omega)
  obtain ⟨r5, p5, e5, a5, b5, h5⟩ := take_ok (m := 9) h4 (by omega) (by omega)
  obtain ⟨r6, p6, e6, a6, b6, h6⟩ := take_ok (m := 3) h5 (by omega) (by omega)
  obtain ⟨sh, hsh⟩ : ∃ sh : List Ship, sh = sh0 ++ [⟨0, 1 + r3, r4, 1 + r5⟩] := ⟨_, rfl⟩
  have hmap : sh.map Ship.d = sh0.map Ship.d ++ [.tup [.int 0, .int (1 + r3), .int r4, .int (1 + r5)]] := by rw [hsh, List.map_append]; rfl
  have hlen : sh.length ≤ 5 := by rw [hsh]; simp; omega
  have hne : sh ≠ [] := by rw [hsh]; simp
  have hok : ∀ x ∈ sh, Ok x := fun x hx => by
    rw [hsh] at hx
    rcases List.mem_append.mp hx with hx | hx
    · exact ok2 x hx
    · simp at hx; subst hx
      exact ⟨by show 0 < 1 + r3; omega, a4, by show r4 ≤ 100000; omega, by show 0 < 1 + r5; omega⟩
  have hb1 : big 1 = false := big_of (by omega)
  have hb4 : big 4 = false := big_of (by omega)
  have hbl : big (sh0.length + 1) = false := big_of (by omega)
  have hsl : gSl (.lst (sh.map Ship.d)) (some (-3)) none = some (.lst ((sh.drop (sh.length - 3)).map Ship.d)) := by
    show some (D.lst (cutD (sh.map Ship.d) (some (-3)) none)) = _
    rw [cut3]
  by_cases hr : r6 = 0
  · have ok3 : ∀ x ∈ (sh.drop (sh.length - 3)).map cutS, Ok x := fun x hx => by
      obtain ⟨y, hy, rfl⟩ := List.mem_map.mp hx
      have o := hok y (List.mem_of_mem_drop hy)
      have o1 := o.r0
      have o2 := o.r1
      have o3 := o.s
      exact ⟨o.l, by show 0 ≤ y.r - y.r / 4 * 4; omega, by show y.r - y.r / 4 * 4 ≤ 100000; omega, by show 0 < 1 + y.s - y.s / 3 * 3; omega⟩
    have hl3 : ((sh.drop (sh.length - 3)).map cutS).length ≤ 3 := by simp; omega
    have hn3 : (sh.drop (sh.length - 3)).map cutS ≠ [] := by
      intro e
      have := congrArg List.length e
      simp at this
      have hp : 0 < sh.length := List.length_pos_iff.mpr hne
      omega
    obtain ⟨e, te⟩ := tail_eq (.lst (ns.map .int)) p6 (1 + r1) ((sh.drop (sh.length - 3)).map cutS) true (by omega) hn3 ok3 (fun _ => hl3)
    have cc : compL (gtN 11) (fun env => some (true, env)) x_law_1 [11] ((sh.drop (sh.length - 3)).map Ship.d) [] [some (.lst (ns.map .int)), some p6, some (.int (1 + r1)), some (.lst (sh.map Ship.d)), some (.bl true), none, none, none, none, none, none, none] = some (((sh.drop (sh.length - 3)).map cutS).map Ship.d, [some (.lst (ns.map .int)), some p6, some (.int (1 + r1)), some (.lst (sh.map Ship.d)), some (.bl true), none, none, none, none, none, none, none]) := by
      rw [compL_all Ship.d (fun x => (cutS x).d) (sh.drop (sh.length - 3)) (fun x hx => ⟨_, [some (.lst (ns.map .int)), some p6, some (.int (1 + r1)), some (.lst (sh.map Ship.d)), some (.bl true), none, none, none, none, none, none, some x.d], rfl, ?_, by simp⟩) (by simp; omega)]
      · rw [List.map_map]; rfl
      · simp [x_law_1, cMul, cDiv, ask_true, hb4]
        rfl
    subst hr
    refine ⟨outs ms_law e, ?_⟩
    simp at cc te hsl
    simp [ap_law, d_law_eq, pool_eq, ep, ms__law_pool, take_eq, e1, ms__law_take, e2, ms__law_ships, e3, e4, e5, hb4, hb1, hbl, e6, gEq_int, ← hmap, hsl, cc, te]
  · obtain ⟨e, te⟩ := tail_eq (.lst (ns.map .int)) p6 (1 + r1) sh false hlen hne hok (fun h => by cases h)
    refine ⟨outs ms_law e, ?_⟩
    rw [hmap] at *
    simp [ap_law, d_law_eq, pool_eq, ep, ms__law_pool, take_eq, e1, ms__law_take, e2, ms__law_ships, e3, e4, e5, hb4, hb1, hbl, e6, gEq_int, hr, te]
end Lk14
set_option maxHeartbeats 4000000
namespace Lk14
open PySem PySem.Spec PyProof.Rows L2 DL
def topS (i : Nat) : Stmt := PySem.Challenge.pw_quaybest_k14_best_orders.main.body.getD i (.Pass ⟨0, 0, 0, 0⟩)
structure Bl (mg : Str → Option Value) : Prop where
  b_enumerate : mg "enumerate" = none
  b_range : mg "range" = none
  b_max : mg "max" = none
  b_tuple : mg "tuple" = none
  b_len : mg "len" = none
  b_sum : mg "sum" = none
  b_int : mg "int" = none
  b_isinstance : mg "isinstance" = none
  b_bool : mg "bool" = none
  b_all : mg "all" = none
  b_list : mg "list" = none
  b_str : mg "str" = none
  b_min : mg "min" = none
abbrev s_is_sharing : Stmt := topS 5
abbrev N_is_sharing : List Str := ["ship", "other"]
theorem sc_is_sharing : FnScope N_is_sharing ["ship", "other"] (defScope s_is_sharing) := ⟨rfl, rfl, rfl, by decide +kernel, rfl, by decide +kernel, by decide +kernel⟩
abbrev s_starts : Stmt := topS 6
abbrev N_starts : List Str := ["ships", "found", "number", "ship", "start", "earlier"]
theorem sc_starts : FnScope N_starts ["ships"] (defScope s_starts) := ⟨rfl, rfl, rfl, by decide +kernel, rfl, by decide +kernel, by decide +kernel⟩
abbrev s_is_overlapping : Stmt := topS 7
abbrev N_is_overlapping : List Str := ["ships", "plan", "one", "other"]
theorem sc_is_overlapping : FnScope N_is_overlapping ["ships", "plan", "one", "other"] (defScope s_is_overlapping) := ⟨rfl, rfl, rfl, by decide +kernel, rfl, by decide +kernel, by decide +kernel⟩
abbrev s_conflicts : Stmt := topS 8
abbrev N_conflicts : List Str := ["ships", "plan", "early", "pairs", "one", "other", "number", "ship"]
theorem sc_conflicts : FnScope N_conflicts ["ships", "plan"] (defScope s_conflicts) := ⟨rfl, rfl, rfl, by decide +kernel, rfl, by decide +kernel, by decide +kernel⟩
abbrev s_check_plan : Stmt := topS 9
abbrev N_check_plan : List Str := ["ships", "plan", "early", "pairs"]
theorem sc_check_plan : FnScope N_check_plan ["ships", "plan"] (defScope s_check_plan) := ⟨rfl, rfl, rfl, by decide +kernel, rfl, by decide +kernel, by decide +kernel⟩
abbrev s_waiting : Stmt := topS 10
abbrev N_waiting : List Str := ["ships", "plan", "number", "ship"]
theorem sc_waiting : FnScope N_waiting ["ships", "plan"] (defScope s_waiting) := ⟨rfl, rfl, rfl, by decide +kernel, rfl, by decide +kernel, by decide +kernel⟩
abbrev s_best_order : Stmt := topS 11
abbrev N_best_order : List Str := ["ships", "best", "rows", "order", "left", "told", "total", "number", "ship"]
theorem sc_best_order : FnScope N_best_order ["ships"] (defScope s_best_order) := ⟨rfl, rfl, rfl, by decide +kernel, rfl, by decide +kernel, by decide +kernel⟩
abbrev s__law_pool : Stmt := topS 13
abbrev N__law_pool : List Str := ["_law_script", "_law_cell"]
theorem sc__law_pool : FnScope N__law_pool ["_law_script"] (defScope s__law_pool) := ⟨rfl, rfl, rfl, by decide +kernel, rfl, by decide +kernel, by decide +kernel⟩
abbrev s__law_take : Stmt := topS 14
abbrev N__law_take : List Str := ["_law_pool_here", "_law_many", "_law_digit", "_law_cell", "_law_mixed"]
theorem sc__law_take : FnScope N__law_take ["_law_pool_here", "_law_many"] (defScope s__law_take) := ⟨rfl, rfl, rfl, by decide +kernel, rfl, by decide +kernel, by decide +kernel⟩
abbrev s__law_is_integer : Stmt := topS 15
abbrev N__law_is_integer : List Str := ["_law_actual"]
theorem sc__law_is_integer : FnScope N__law_is_integer ["_law_actual"] (defScope s__law_is_integer) := ⟨rfl, rfl, rfl, by decide +kernel, rfl, by decide +kernel, by decide +kernel⟩
abbrev s__law_same : Stmt := topS 16
abbrev N__law_same : List Str := ["_law_actual", "_law_due", "_law_k"]
theorem sc__law_same : FnScope N__law_same ["_law_actual", "_law_due"] (defScope s__law_same) := ⟨rfl, rfl, rfl, by decide +kernel, rfl, by decide +kernel, by decide +kernel⟩
abbrev s__law_ships : Stmt := topS 17
abbrev N__law_ships : List Str := ["_law_pool_here", "_law_bollards", "_law_many", "_law_ships_here", "_law_k", "_law_position", "_law_length"]
theorem sc__law_ships : FnScope N__law_ships ["_law_pool_here", "_law_bollards", "_law_many"] (defScope s__law_ships) := ⟨rfl, rfl, rfl, by decide +kernel, rfl, by decide +kernel, by decide +kernel⟩
abbrev s__law_shares : Stmt := topS 18
abbrev N__law_shares : List Str := ["_law_one", "_law_other"]
theorem sc__law_shares : FnScope N__law_shares ["_law_one", "_law_other"] (defScope s__law_shares) := ⟨rfl, rfl, rfl, by decide +kernel, rfl, by decide +kernel, by decide +kernel⟩
abbrev s__law_starts : Stmt := topS 19
abbrev N__law_starts : List Str := ["_law_ships_here", "_law_found", "_law_k", "_law_left", "_law_j"]
theorem sc__law_starts : FnScope N__law_starts ["_law_ships_here"] (defScope s__law_starts) := ⟨rfl, rfl, rfl, by decide +kernel, rfl, by decide +kernel, by decide +kernel⟩
abbrev s__law_meets : Stmt := topS 20
abbrev N__law_meets : List Str := ["_law_ships_here", "_law_plan", "_law_one", "_law_other", "_law_first"]
theorem sc__law_meets : FnScope N__law_meets ["_law_ships_here", "_law_plan", "_law_one", "_law_other"] (defScope s__law_meets) := ⟨rfl, rfl, rfl, by decide +kernel, rfl, by decide +kernel, by decide +kernel⟩
abbrev s__law_orders : Stmt := topS 21
abbrev N__law_orders : List Str := ["_law_many", "_law_found", "_law_k", "_law_longer", "_law_order", "_law_number"]
theorem sc__law_orders : FnScope N__law_orders ["_law_many"] (defScope s__law_orders) := ⟨rfl, rfl, rfl, by decide +kernel, rfl, by decide +kernel, by decide +kernel⟩
abbrev s__law_waiting : Stmt := topS 22
abbrev N__law_waiting : List Str := ["_law_ships_here", "_law_order", "_law_told", "_law_k", "_law_one"]
theorem sc__law_waiting : FnScope N__law_waiting ["_law_ships_here", "_law_order"] (defScope s__law_waiting) := ⟨rfl, rfl, rfl, by decide +kernel, rfl, by decide +kernel, by decide +kernel⟩
abbrev s__law_is_feasible : Stmt := topS 23
abbrev N__law_is_feasible : List Str := ["_law_ships_here", "_law_plan", "_law_k", "_law_j"]
theorem sc__law_is_feasible : FnScope N__law_is_feasible ["_law_ships_here", "_law_plan"] (defScope s__law_is_feasible) := ⟨rfl, rfl, rfl, by decide +kernel, rfl, by decide +kernel, by decide +kernel⟩
abbrev s__law_no_better : Stmt := topS 24
abbrev N__law_no_better : List Str := ["_law_ships_here", "_law_least", "_law_low", "_law_plans", "_law_k", "_law_longer", "_law_plan", "_law_total", "_law_one", "_law_start"]
theorem sc__law_no_better : FnScope N__law_no_better ["_law_ships_here", "_law_least"] (defScope s__law_no_better) := ⟨rfl, rfl, rfl, by decide +kernel, rfl, by decide +kernel, by decide +kernel⟩
abbrev s_law : Stmt := topS 25
abbrev N_law : List Str := ["_law_script", "_law_pool_here", "_law_bollards", "_law_ships_here", "_law_is_small", "_law_due", "_law_order", "_law_total", "_law_told", "_law_plan", "_law_k", "_law_one"]
theorem sc_law : FnScope N_law ["_law_script"] (defScope s_law) := ⟨rfl, rfl, rfl, by decide +kernel, rfl, by decide +kernel, by decide +kernel⟩
end Lk14
set_option maxHeartbeats 4000000
namespace Lk14
open PySem PySem.Spec PyProof.Rows L2 DL
theorem c_is_sharing {P : Program} {w : World} {K : PySem.W.Frag} {mg : Str → Option Value} {base : Heap} {f : Addr} {fd : FuncData} (F : Fun K "is_sharing" "is_sharing" s_is_sharing f fd) (hb : Binds K fd ["ship", "other"] []) (hm : mg "is_sharing" = some (.ref f)) (T : Bl mg)  : Cal P w K mg base "is_sharing" 1 ms_is_sharing .fz g_is_sharing :=
  cal_of F sc_is_sharing hb hm d_is_sharing rfl fun cdv A outer s H E hr vs hl => by
    match vs, hl with
    | [v0, v1], _ =>
      exact ⟨[.fz, .fz], [.fz, .fz], [.fz, .fz], [.fz, .fz],
   (show DSs _ [.fz, .fz] _ _ _ from (dss_one (ds_retF [0, 1] (de_and (de_cmp op_lt og_lt (de_ix ix_seq og_ix (de_var 0) de_int) (de_op op_add3 og_add (de_ix ix_seq og_ix (de_var 1) de_int) (de_ix ix_seq og_ix (de_var 1) de_int))) (de_one (de_cmp op_lt og_lt (de_ix ix_seq og_ix (de_var 1) de_int) (de_op op_add3 og_add (de_ix ix_seq og_ix (de_var 0) de_int) (de_ix ix_seq og_ix (de_var 0) de_int)))))))),
   by simp [DL.Keeps, fgt, adr, ms_is_sharing], fun _ => by simp [DL.Keeps, fgt, adr, ms_is_sharing]⟩
end Lk14
set_option maxHeartbeats 4000000
namespace Lk14
open PySem PySem.Spec PyProof.Rows L2 DL
theorem c_starts {P : Program} {w : World} {K : PySem.W.Frag} {mg : Str → Option Value} {base : Heap} {f : Addr} {fd : FuncData} (F : Fun K "starts" "starts" s_starts f fd) (hb : Binds K fd ["ships"] []) (hm : mg "starts" = some (.ref f)) (T : Bl mg) (C_is_sharing : Cal P w K mg base "is_sharing" 1 ms_is_sharing .fz g_is_sharing) : Cal P w K mg base "starts" 2 ms_starts .fz g_starts :=
  cal_of F sc_starts hb hm d_starts rfl fun cdv A outer s H E hr vs hl => by
    match vs, hl with
    | [v0], _ =>
      exact ⟨[.fz, .fz, .fz, .fz, .fz, .fz], [.fz, .fz, .fz, .fz, .fz, .fz], [.fz, .fz, .fz, .fz, .fz, .fz], [.fz, .fz, .fz, .fz, .fz, .fz],
   (show DSs _ [.fz, .fz, .fz, .fz, .fz, .fz] _ _ _ from (dss_cons (τ1 := [.fz, (.ls .fz), .fz, .fz, .fz, .fz]) (ds_set 1 (de_lst FO.ls da_nil) sc_starts.nd) (dss_cons (τ1 := [.fz, (.ls .fz), .fz, .fz, .fz, .fz]) (ds_for (mask := [2, 3, 4, 5]) (bk := [.fz, (.ls .fz), .fz, .fz, .fz, .fz]) (ct := [.fz, (.ls .fz), .fz, .fz, .fz, .fz]) .never rfl (di_enum (de_var 0) T.b_enumerate) (dg_tup rfl (dgs_cons (dg_name 2 sc_starts.nd) (dgs_cons (dg_name 3 sc_starts.nd) dgs_nil)))
   (dss_cons (τ1 := [.fz, (.ls .fz), .fz, .fz, .fz, .fz]) (ds_set 4 (de_ix ix_seq og_ix (de_var 3) de_int) sc_starts.nd) (dss_cons (τ1 := [.fz, (.ls .fz), .fz, .fz, .fz, .fz]) (ds_for (mask := [5]) (bk := [.fz, (.ls .fz), .fz, .fz, .fz, .fz]) (ct := [.fz, (.ls .fz), .fz, .fz, .fz, .fz]) .never rfl (di_range1 T.b_range (da_cons (de_var 2) da_nil)) (dg_name 5 sc_starts.nd)
   (dss_one (ds_if (dt_val (de_call (ks := [.v, .v]) C_is_sharing (hr.mono (by first | decide | exact Nat.le_trans (by decide) (Nat.le_add_right _ _))) (dak_v (de_ix ix_seq og_ix (de_var 0) (de_var 5)) (dak_v (de_var 3) dak_nil)) (.cons .fz (.cons .fz .nil))))
   (dss_one (ds_set 4 (de_callB (call_max2 rfl) cg_max2 (by decide +kernel) T.b_max (da_cons (de_var 4) (da_cons (de_op op_add3 og_add (de_ixo 1 (de_var 5) (by repeat constructor)) (de_ix ix_seq og_ix (de_ix ix_seq og_ix (de_var 0) (de_var 5)) de_int)) da_nil))) sc_starts.nd))
   dss_nil))) (dss_one (ds_drop (de_mut 1 PySem.F.slot_list_append PySem.F.type_list_append mt_append mu_append (da_cons (de_var 4) da_nil))))))) (dss_one (ds_retF [0, 1, 2, 3, 4, 5] (de_callTR call_tupleF cg_tuple (by decide +kernel) T.b_tuple (dr_own 1 (by repeat constructor)))))))),
   by simp [DL.Keeps, fgt, adr, ms_starts], fun _ => by simp [DL.Keeps, fgt, adr, ms_starts]⟩
end Lk14
set_option maxHeartbeats 4000000
namespace Lk14
open PySem PySem.Spec PyProof.Rows L2 DL
theorem c_is_overlapping {P : Program} {w : World} {K : PySem.W.Frag} {mg : Str → Option Value} {base : Heap} {f : Addr} {fd : FuncData} (F : Fun K "is_overlapping" "is_overlapping" s_is_overlapping f fd) (hb : Binds K fd ["ships", "plan", "one", "other"] []) (hm : mg "is_overlapping" = some (.ref f)) (T : Bl mg) (C_is_sharing : Cal P w K mg base "is_sharing" 1 ms_is_sharing .fz g_is_sharing) : Cal P w K mg base "is_overlapping" 2 ms_is_overlapping .fz g_is_overlapping :=
  cal_of F sc_is_overlapping hb hm d_is_overlapping rfl fun cdv A outer s H E hr vs hl => by
    match vs, hl with
    | [v0, v1, v2, v3], _ =>
      exact ⟨[.fz, .fz, .fz, .fz], [.fz, .fz, .fz, .fz], [.fz, .fz, .fz, .fz], [.fz, .fz, .fz, .fz],
   (show DSs _ [.fz, .fz, .fz, .fz] _ _ _ from (dss_cons (τ1 := [.fz, .fz, .fz, .fz]) (ds_if (dt_not (dt_val (de_call (ks := [.v, .v]) C_is_sharing (hr.mono (by first | decide | exact Nat.le_trans (by decide) (Nat.le_add_right _ _))) (dak_v (de_ix ix_seq og_ix (de_var 0) (de_var 2)) (dak_v (de_ix ix_seq og_ix (de_var 0) (de_var 3)) dak_nil)) (.cons .fz (.cons .fz .nil)))))
   (dss_one (ds_retF [0, 1, 2, 3] de_bl))
   dss_nil) (dss_one (ds_retF [0, 1, 2, 3] (de_and (de_cmp op_lt og_lt (de_ix ix_seq og_ix (de_var 1) (de_var 2)) (de_op op_add3 og_add (de_ix ix_seq og_ix (de_var 1) (de_var 3)) (de_ix ix_seq og_ix (de_ix ix_seq og_ix (de_var 0) (de_var 3)) de_int))) (de_one (de_cmp op_lt og_lt (de_ix ix_seq og_ix (de_var 1) (de_var 3)) (de_op op_add3 og_add (de_ix ix_seq og_ix (de_var 1) (de_var 2)) (de_ix ix_seq og_ix (de_ix ix_seq og_ix (de_var 0) (de_var 2)) de_int))))))))),
   by simp [DL.Keeps, fgt, adr, ms_is_overlapping], fun _ => by simp [DL.Keeps, fgt, adr, ms_is_overlapping]⟩
end Lk14
set_option maxHeartbeats 4000000
namespace Lk14
open PySem PySem.Spec PyProof.Rows L2 DL
theorem c_conflicts {P : Program} {w : World} {K : PySem.W.Frag} {mg : Str → Option Value} {base : Heap} {f : Addr} {fd : FuncData} (F : Fun K "conflicts" "conflicts" s_conflicts f fd) (hb : Binds K fd ["ships", "plan"] []) (hm : mg "conflicts" = some (.ref f)) (T : Bl mg) (C_is_overlapping : Cal P w K mg base "is_overlapping" 2 ms_is_overlapping .fz g_is_overlapping) : Cal P w K mg base "conflicts" 3 ms_conflicts .fz g_conflicts :=
  cal_of F sc_conflicts hb hm d_conflicts rfl fun cdv A outer s H E hr vs hl => by
    match vs, hl with
    | [v0, v1], _ =>
      exact ⟨[.fz, .fz, .fz, .fz, .fz, .fz, .fz, .fz], [.fz, .fz, .fz, .fz, .fz, .fz, .fz, .fz], [.fz, .fz, .fz, .fz, .fz, .fz, .fz, .fz], [.fz, .fz, .fz, .fz, .fz, .fz, .fz, .fz],
   (show DSs _ [.fz, .fz, .fz, .fz, .fz, .fz, .fz, .fz] _ _ _ from (dss_cons (τ1 := [.fz, .fz, (.ls .fz), .fz, .fz, .fz, .fz, .fz]) (ds_setLc 2 (own := [("number", 6), ("ship", 7)]) rfl sc_conflicts.nd (di_enum (de_var 0) T.b_enumerate) (blkOk_by (own := [("number", 6), ("ship", 7)]) (N := N_conflicts) (sc := defScope s_conflicts) (by decide +kernel)) (fun _ _ _ _ _ => (dg_tup rfl (dgs_cons (dg_name 6 sc_conflicts.nd) (dgs_cons (dg_name 7 sc_conflicts.nd) dgs_nil)))) (fun _ _ _ _ _ => (dts_one (dt_cmp op_lt og_lt (de_ix ix_seq og_ix (de_var 1) (de_var 6)) (de_ix ix_seq og_ix (de_var 7) de_int)))) (fun _ _ _ _ _ => (de_var 6)) (sw_true rfl rfl rfl (by decide +kernel))) (dss_cons (τ1 := [.fz, .fz, (.ls .fz), (.ls .fz), .fz, .fz, .fz, .fz]) (ds_set 3 (de_lst FO.ls da_nil) sc_conflicts.nd) (dss_cons (τ1 := [.fz, .fz, (.ls .fz), (.ls .fz), .fz, .fz, .fz, .fz]) (ds_for (mask := [4, 5]) (bk := [.fz, .fz, (.ls .fz), (.ls .fz), .fz, .fz, .fz, .fz]) (ct := [.fz, .fz, (.ls .fz), (.ls .fz), .fz, .fz, .fz, .fz]) .never rfl (di_range1 T.b_range (da_cons (de_callR call_len cg_len (by decide +kernel) T.b_len (dr_de (de_var 0))) da_nil)) (dg_name 4 sc_conflicts.nd)
   (dss_one (ds_for (mask := [5]) (bk := [.fz, .fz, (.ls .fz), (.ls .fz), .fz, .fz, .fz, .fz]) (ct := [.fz, .fz, (.ls .fz), (.ls .fz), .fz, .fz, .fz, .fz]) .never rfl (di_range2 T.b_range (da_cons (de_op op_add3 og_add (de_var 4) de_int) (da_cons (de_callR call_len cg_len (by decide +kernel) T.b_len (dr_de (de_var 0))) da_nil))) (dg_name 5 sc_conflicts.nd)
   (dss_one (ds_if (dt_val (de_call (ks := [.v, .v, .v, .v]) C_is_overlapping (hr.mono (by first | decide | exact Nat.le_trans (by decide) (Nat.le_add_right _ _))) (dak_v (de_var 0) (dak_v (de_var 1) (dak_v (de_var 4) (dak_v (de_var 5) dak_nil)))) (.cons .fz (.cons .fz (.cons .fz (.cons .fz .nil))))))
   (dss_one (ds_drop (de_mut 3 PySem.F.slot_list_append PySem.F.type_list_append mt_append mu_append (da_cons (de_tup (da_cons (de_var 4) (da_cons (de_var 5) da_nil))) da_nil))))
   dss_nil))))) (dss_one (ds_retF [0, 1, 2, 3, 4, 5, 6, 7] (de_tup (da_cons (de_callTR call_tupleF cg_tuple (by decide +kernel) T.b_tuple (dr_own 2 (by repeat constructor))) (da_cons (de_callTR call_tupleF cg_tuple (by decide +kernel) T.b_tuple (dr_own 3 (by repeat constructor))) da_nil))))))))),
   by simp [DL.Keeps, fgt, adr, ms_conflicts], fun _ => by simp [DL.Keeps, fgt, adr, ms_conflicts]⟩
end Lk14
set_option maxHeartbeats 4000000
namespace Lk14
open PySem PySem.Spec PyProof.Rows L2 DL
theorem c_check_plan {P : Program} {w : World} {K : PySem.W.Frag} {mg : Str → Option Value} {base : Heap} {f : Addr} {fd : FuncData} (F : Fun K "check_plan" "check_plan" s_check_plan f fd) (hb : Binds K fd ["ships", "plan"] []) (hm : mg "check_plan" = some (.ref f)) (T : Bl mg) (C_conflicts : Cal P w K mg base "conflicts" 3 ms_conflicts .fz g_conflicts) : Cal P w K mg base "check_plan" 4 ms_check_plan .fz g_check_plan :=
  cal_of F sc_check_plan hb hm d_check_plan rfl fun cdv A outer s H E hr vs hl => by
    match vs, hl with
    | [v0, v1], _ =>
      exact ⟨_, [.fz, .fz, .fz, .fz], [.fz, .fz, .fz, .fz], [.fz, .fz, .fz, .fz],
   (show DSs _ [.fz, .fz, .fz, .fz] _ _ _ from (dss_cons (τ1 := [.fz, .fz, .fz, .fz]) (ds_asg (de_call (ks := [.v, .v]) C_conflicts (hr.mono (by first | decide | exact Nat.le_trans (by decide) (Nat.le_add_right _ _))) (dak_v (de_var 0) (dak_v (de_var 1) dak_nil)) (.cons .fz (.cons .fz .nil))) (dg_tup rfl (dgs_cons (dg_name 2 sc_check_plan.nd) (dgs_cons (dg_name 3 sc_check_plan.nd) dgs_nil)))) (dss_cons (τ1 := [.fz, .fz, .fz, .fz]) (ds_if (dt_truth (dr_de (de_var 2)))
   (dss_one ds_never)
   dss_nil) (dss_one (ds_if (dt_truth (dr_de (de_var 3)))
   (dss_one ds_never)
   dss_nil))))),
   by simp [DL.Keeps, fgt, adr, ms_check_plan], fun _ => by simp [DL.Keeps, fgt, adr, ms_check_plan]⟩
end Lk14
set_option maxHeartbeats 4000000
namespace Lk14
open PySem PySem.Spec PyProof.Rows L2 DL
theorem c_waiting {P : Program} {w : World} {K : PySem.W.Frag} {mg : Str → Option Value} {base : Heap} {f : Addr} {fd : FuncData} (F : Fun K "waiting" "waiting" s_waiting f fd) (hb : Binds K fd ["ships", "plan"] []) (hm : mg "waiting" = some (.ref f)) (T : Bl mg) (C_check_plan : Cal P w K mg base "check_plan" 4 ms_check_plan .fz g_check_plan) : Cal P w K mg base "waiting" 5 ms_waiting .fz g_waiting :=
  cal_of F sc_waiting hb hm d_waiting rfl fun cdv A outer s H E hr vs hl => by
    match vs, hl with
    | [v0, v1], _ =>
      exact ⟨[.fz, .fz, .fz, .fz], [.fz, .fz, .fz, .fz], [.fz, .fz, .fz, .fz], [.fz, .fz, .fz, .fz],
   (show DSs _ [.fz, .fz, .fz, .fz] _ _ _ from (dss_cons (τ1 := [.fz, .fz, .fz, .fz]) (ds_drop (de_call (ks := [.v, .v]) C_check_plan (hr.mono (by first | decide | exact Nat.le_trans (by decide) (Nat.le_add_right _ _))) (dak_v (de_var 0) (dak_v (de_var 1) dak_nil)) (.cons .fz (.cons .fz .nil)))) (dss_one (ds_retF [0, 1, 2, 3] (de_callR (cr_sum2 rfl) cg_sum (by decide +kernel) T.b_sum (dr_de (de_fz (de_lc (own := [("number", 2), ("ship", 3)]) rfl sc_waiting.nd (di_enum (de_var 0) T.b_enumerate) (blkOk_by (own := [("number", 2), ("ship", 3)]) (N := N_waiting) (sc := defScope s_waiting) (by decide +kernel)) (fun _ _ _ _ _ => (dg_tup rfl (dgs_cons (dg_name 2 sc_waiting.nd) (dgs_cons (dg_name 3 sc_waiting.nd) dgs_nil)))) (fun _ _ _ _ _ => dts_nil) (fun _ _ _ _ _ => (de_op op_sub og_sub (de_ix ix_seq og_ix (de_var 1) (de_var 2)) (de_ix ix_seq og_ix (de_var 3) de_int))))))))))),
   by simp [DL.Keeps, fgt, adr, ms_waiting], fun _ => by simp [DL.Keeps, fgt, adr, ms_waiting]⟩
end Lk14
set_option maxHeartbeats 4000000
namespace Lk14
open PySem PySem.Spec PyProof.Rows L2 DL
theorem c_best_order {P : Program} {w : World} {K : PySem.W.Frag} {mg : Str → Option Value} {base : Heap} {f : Addr} {fd : FuncData} (F : Fun K "best_order" "best_order" s_best_order f fd) (hb : Binds K fd ["ships"] []) (hm : mg "best_order" = some (.ref f)) (T : Bl mg) (C_starts : Cal P w K mg base "starts" 2 ms_starts .fz g_starts) : Cal P w K mg base "best_order" 3 ms_best_order .fz g_best_order :=
  cal_of F sc_best_order hb hm d_best_order rfl fun cdv A outer s H E hr vs hl => by
    match vs, hl with
    | [v0], _ =>
      exact ⟨[.fz, .fz, .fz, .fz, .fz, .fz, .fz, .fz, .fz], [.fz, .fz, .fz, .fz, .fz, .fz, .fz, .fz, .fz], [.fz, .fz, .fz, .fz, .fz, .fz, .fz, .fz, .fz], [.fz, .fz, .fz, .fz, .fz, .fz, .fz, .fz, .fz],
   (show DSs _ [.fz, .fz, .fz, .fz, .fz, .fz, .fz, .fz, .fz] _ _ _ from (dss_cons (τ1 := [.fz, .fz, .fz, .fz, .fz, .fz, .fz, .fz, .fz]) (ds_set 1 de_non sc_best_order.nd) (dss_cons (τ1 := [.fz, .fz, (.ls .fz), .fz, .fz, .fz, .fz, .fz, .fz]) (ds_set 2 (de_lst FO.ls (da_cons (de_tup da_nil) da_nil)) sc_best_order.nd) (dss_cons (τ1 := [.fz, .fz, (.ls .fz), .fz, .fz, .fz, .fz, .fz, .fz]) (ds_while (mask := [3, 4, 5, 6]) (bk := [.fz, .fz, (.ls .fz), .fz, .fz, .fz, .fz, .fz, .fz]) (ct := [.fz, .fz, (.ls .fz), .fz, .fz, .fz, .fz, .fz, .fz]) .never (dt_truth (dr_own 2 (by repeat constructor)))
   (dss_cons (τ1 := [.fz, .fz, (.ls .fz), .fz, .fz, .fz, .fz, .fz, .fz]) (ds_set 3 (de_mut0 2 PySem.F.slot_list_pop PySem.F.type_list_pop mt_pop mu_pop) sc_best_order.nd) (dss_cons (τ1 := [.fz, .fz, (.ls .fz), .fz, (.ls .fz), .fz, .fz, .fz, .fz]) (ds_setLc 4 (own := [("number", 7)]) rfl sc_best_order.nd (di_range1 T.b_range (da_cons (de_callR call_len cg_len (by decide +kernel) T.b_len (dr_de (de_var 0))) da_nil)) (blkOk_by (own := [("number", 7)]) (N := N_best_order) (sc := defScope s_best_order) (by decide +kernel)) (fun _ _ _ _ _ => (dg_name 7 sc_best_order.nd)) (fun _ _ _ _ _ => (dts_one (dt_in op_notIn2 (de_var 7) (dr_de (de_var 3))))) (fun _ _ _ _ _ => (de_var 7)) (sw_true rfl rfl rfl (by decide +kernel))) (dss_one (ds_if (dt_truth (dr_own 4 (by repeat constructor)))
   (dss_one (ds_drop (de_mut 2 PySem.F.slot_list_extend PySem.F.type_list_extend mt_extend mu_extend (da_cons (de_fz (de_lc (own := [("number", 7)]) rfl sc_best_order.nd (di_seq (de_rev (dr_own 4 (by repeat constructor)))) (blkOk_by (own := [("number", 7)]) (N := N_best_order) (sc := defScope s_best_order) (by decide +kernel)) (fun _ _ _ _ _ => (dg_name 7 sc_best_order.nd)) (fun _ _ _ _ _ => dts_nil) (fun _ _ _ _ _ => (de_op op_add3 og_add (de_var 3) (de_tup (da_cons (de_var 7) da_nil)))))) da_nil))))
   (dss_cons (τ1 := [.fz, .fz, (.ls .fz), .fz, (.ls .fz), .fz, .fz, .fz, .fz]) (ds_set 5 (de_call (ks := [.v]) C_starts (hr.mono (by first | decide | exact Nat.le_trans (by decide) (Nat.le_add_right _ _))) (dak_v (de_fz (de_lc (own := [("number", 7)]) rfl sc_best_order.nd (di_seq (de_var 3)) (blkOk_by (own := [("number", 7)]) (N := N_best_order) (sc := defScope s_best_order) (by decide +kernel)) (fun _ _ _ _ _ => (dg_name 7 sc_best_order.nd)) (fun _ _ _ _ _ => dts_nil) (fun _ _ _ _ _ => (de_ix ix_seq og_ix (de_var 0) (de_var 7))))) dak_nil) (.cons .fz .nil)) sc_best_order.nd) (dss_cons (τ1 := [.fz, .fz, (.ls .fz), .fz, (.ls .fz), .fz, .fz, .fz, .fz]) (ds_set 6 (de_op op_sub og_sub (de_callR (cr_sum2 rfl) cg_sum (by decide +kernel) T.b_sum (dr_de (de_var 5))) (de_callR (cr_sum2 rfl) cg_sum (by decide +kernel) T.b_sum (dr_de (de_fz (de_lc (own := [("ship", 8)]) rfl sc_best_order.nd (di_seq (de_var 0)) (blkOk_by (own := [("ship", 8)]) (N := N_best_order) (sc := defScope s_best_order) (by decide +kernel)) (fun _ _ _ _ _ => (dg_name 8 sc_best_order.nd)) (fun _ _ _ _ _ => dts_nil) (fun _ _ _ _ _ => (de_ix ix_seq og_ix (de_var 8) de_int))))))) sc_best_order.nd) (dss_one (ds_if (dt_w (dw_or (dt_cmp op_isN og_isN (de_var 1) de_non) (dw_or1 (dt_cmp op_lt og_lt (de_var 6) (de_ix ix_seq og_ix (de_var 1) de_int)))))
   (dss_one (ds_set 1 (de_tup (da_cons (de_var 3) (da_cons (de_var 6) da_nil))) sc_best_order.nd))
   dss_nil))))))))) (dss_one (ds_retF [0, 1, 2, 3, 4, 5, 6, 7, 8] (de_var 1))))))),
   by simp [DL.Keeps, fgt, adr, ms_best_order], fun _ => by simp [DL.Keeps, fgt, adr, ms_best_order]⟩
end Lk14
set_option maxHeartbeats 4000000
namespace Lk14
open PySem PySem.Spec PyProof.Rows L2 DL
theorem c__law_pool {P : Program} {w : World} {K : PySem.W.Frag} {mg : Str → Option Value} {base : Heap} {f : Addr} {fd : FuncData} (F : Fun K "_law_pool" "_law_pool" s__law_pool f fd) (hb : Binds K fd ["_law_script"] []) (hm : mg "_law_pool" = some (.ref f)) (T : Bl mg)  : Cal P w K mg base "_law_pool" 1 ms__law_pool (.ls .fz) g__law_pool :=
  cal_of F sc__law_pool hb hm d__law_pool rfl fun cdv A outer s H E hr vs hl => by
    match vs, hl with
    | [v0], _ =>
      exact ⟨[(.br (adr v0)), .fz], [(.br (adr v0)), .fz], [(.br (adr v0)), .fz], [.fz, .fz],
   (show DSs _ [(.br (adr v0)), .fz] _ _ _ from (dss_one (ds_retF [0, 1] (de_lst FO.ls (da_cons (de_fz (de_lc (own := [("_law_cell", 1)]) rfl sc__law_pool.nd (di_br 0) (blkOk_by (own := [("_law_cell", 1)]) (N := N__law_pool) (sc := defScope s__law_pool) (by decide +kernel)) (fun _ _ _ _ _ => (dg_name 1 sc__law_pool.nd)) (fun _ _ _ _ _ => dts_nil) (fun _ _ _ _ _ => (de_ifExp (dt_cmp op_ge og_ge (de_var 1) de_int) (de_op op_mul og_mul de_int (de_var 1)) (de_op op_sub og_sub (de_op op_mul og_mul (de_un un_neg ug_neg de_int) (de_var 1)) de_int))))) (da_cons de_int (da_cons de_int (da_cons de_int da_nil)))))))),
   by simp [DL.Keeps, fgt, adr, ms__law_pool], fun _ => by simp [DL.Keeps, fgt, adr, ms__law_pool]⟩
end Lk14
set_option maxHeartbeats 4000000
namespace Lk14
open PySem PySem.Spec PyProof.Rows L2 DL
theorem cr__law_take {P : Program} {w : World} {K : PySem.W.Frag} {mg : Str → Option Value} {base : Heap} {f : Addr} {fd : FuncData} (F : Fun K "_law_take" "_law_take" s__law_take f fd) (hb : Binds K fd ["_law_pool_here", "_law_many"] []) (hm : mg "_law_take" = some (.ref f)) (T : Bl mg)  : ∀ n : Nat, Cal P w K mg base "_law_take" (0 + n) ms__law_take .fz (r__law_take n)
  | 0 => cal_none F hb hm
  | n + 1 => by
    have ih := cr__law_take (P := P) (w := w) (base := base) F hb hm T  n
    exact cal_of F sc__law_take hb hm (d__law_take (r__law_take n)) rfl fun cdv A outer s H E hr vs hl => by
      match vs, hl with
        | [v0, v1], _ =>
          exact ⟨[(.at (adr v0) (.ls .fz)), .fz, .fz, .fz, .fz], [(.at (adr v0) (.ls .fz)), .fz, .fz, .fz, .fz], [(.at (adr v0) (.ls .fz)), .fz, .fz, .fz, .fz], [(.at (adr v0) (.ls .fz)), .fz, .fz, .fz, .fz],
       (show DSs _ [(.at (adr v0) (.ls .fz)), .fz, .fz, .fz, .fz] _ _ _ from (dss_cons (τ1 := [(.at (adr v0) (.ls .fz)), .fz, .fz, .fz, .fz]) (ds_if (dt_cmp op_gt og_gt (de_ixo 0 de_int (by repeat constructor)) de_int)
       (dss_cons (τ1 := [(.at (adr v0) (.ls .fz)), .fz, .fz, .fz, .fz]) (ds_set 2 (de_op op_mod og_mod (de_callTy call_int1 cg_int (by decide +kernel) T.b_int (da_cons (de_ixo 0 de_int (by repeat constructor)) da_nil)) (de_var 1)) sc__law_take.nd) (dss_cons (τ1 := [(.at (adr v0) (.ls .fz)), .fz, .fz, .fz, .fz]) (ds_asg (de_op op_fdiv og_div (de_ixo 0 de_int (by repeat constructor)) (de_var 1)) (dg_ix 0 de_int)) (dss_one (ds_retF [1, 2, 3, 4] (de_var 2)))))
       dss_nil) (dss_cons (τ1 := [(.at (adr v0) (.ls .fz)), .fz, .fz, .fz, .fz]) (ds_set 3 de_int sc__law_take.nd) (dss_cons (τ1 := [(.at (adr v0) (.ls .fz)), .fz, .fz, .fz, .fz]) (ds_if (dt_cmp op_lt og_lt (de_ixo 0 de_int (by repeat constructor)) (de_callR call_len cg_len (by decide +kernel) T.b_len (dr_de (de_ixo 0 de_int (by repeat constructor)))))
       (dss_one (ds_set 3 (de_ix ix_seq og_ix (de_ixo 0 de_int (by repeat constructor)) (de_ixo 0 de_int (by repeat constructor))) sc__law_take.nd))
       dss_nil) (dss_cons (τ1 := [(.at (adr v0) (.ls .fz)), .fz, .fz, .fz, .fz]) (ds_asg (de_op op_add3 og_add (de_ixo 0 de_int (by repeat constructor)) de_int) (dg_ix 0 de_int)) (dss_cons (τ1 := [(.at (adr v0) (.ls .fz)), .fz, .fz, .fz, .fz]) (ds_if (dt_cmp op_ge og_ge (de_var 3) (de_op op_pow og_pow de_int de_int))
       (dss_cons (τ1 := [(.at (adr v0) (.ls .fz)), .fz, .fz, .fz, .fz]) (ds_asg (de_op op_fdiv og_div (de_var 3) de_int) (dg_ix 0 de_int)) (dss_one (ds_retF [1, 2, 3, 4] (de_call (ks := [.s 0, .v]) ih hr (dak_s 0 (dak_v (de_var 1) dak_nil)) (.cons (.mta rfl (by repeat constructor)) (.cons .fz .nil))))))
       dss_nil) (dss_cons (τ1 := [(.at (adr v0) (.ls .fz)), .fz, .fz, .fz, .fz]) (ds_asg (de_op op_mod og_mod (de_callTy call_int1 cg_int (by decide +kernel) T.b_int (da_cons (de_op op_add3 og_add (de_op op_add3 og_add (de_op op_mul og_mul (de_ixo 0 de_int (by repeat constructor)) de_int) (de_op op_mul og_mul (de_var 3) de_int)) (de_op op_mul og_mul (de_ixo 0 de_int (by repeat constructor)) de_int)) da_nil)) de_int) (dg_ix 0 de_int)) (dss_cons (τ1 := [(.at (adr v0) (.ls .fz)), .fz, .fz, .fz, .fz]) (ds_set 4 (de_op op_mod og_mod (de_callTy call_int1 cg_int (by decide +kernel) T.b_int (da_cons (de_op op_add3 og_add (de_op op_add3 og_add (de_op op_mul og_mul (de_ixo 0 de_int (by repeat constructor)) (de_ixo 0 de_int (by repeat constructor))) (de_op op_mul og_mul (de_ixo 0 de_int (by repeat constructor)) de_int)) de_int) da_nil)) de_int) sc__law_take.nd) (dss_one (ds_retF [1, 2, 3, 4] (de_op op_mod og_mod (de_callTy call_int1 cg_int (by decide +kernel) T.b_int (da_cons (de_op op_fdiv og_div (de_var 4) de_int) da_nil)) (de_var 1)))))))))))),
       by simp [DL.Keeps, fgt, adr, ms__law_take], fun _ => by simp [DL.Keeps, fgt, adr, ms__law_take]⟩
theorem c__law_take {P : Program} {w : World} {K : PySem.W.Frag} {mg : Str → Option Value} {base : Heap} {f : Addr} {fd : FuncData} (F : Fun K "_law_take" "_law_take" s__law_take f fd) (hb : Binds K fd ["_law_pool_here", "_law_many"] []) (hm : mg "_law_take" = some (.ref f)) (T : Bl mg)  : Cal P w K mg base "_law_take" 2 ms__law_take .fz g__law_take := cr__law_take F hb hm T  2
end Lk14
set_option maxHeartbeats 4000000
namespace Lk14
open PySem PySem.Spec PyProof.Rows L2 DL
theorem c__law_is_integer {P : Program} {w : World} {K : PySem.W.Frag} {mg : Str → Option Value} {base : Heap} {f : Addr} {fd : FuncData} (F : Fun K "_law_is_integer" "_law_is_integer" s__law_is_integer f fd) (hb : Binds K fd ["_law_actual"] []) (hm : mg "_law_is_integer" = some (.ref f)) (T : Bl mg)  : Cal P w K mg base "_law_is_integer" 1 ms__law_is_integer .fz g__law_is_integer :=
  cal_of F sc__law_is_integer hb hm d__law_is_integer rfl fun cdv A outer s H E hr vs hl => by
    match vs, hl with
    | [v0], _ =>
      exact ⟨[.fz], [.fz], [.fz], [.fz],
   (show DSs _ [.fz] _ _ _ from (dss_one (ds_retF [0] (de_and (de_isi (T := "int") (de_var 0) T.b_isinstance T.b_int (by decide +kernel)) (de_one (de_not (de_isi (T := "bool") (de_var 0) T.b_isinstance T.b_bool (by decide +kernel)))))))),
   by simp [DL.Keeps, fgt, adr, ms__law_is_integer], fun _ => by simp [DL.Keeps, fgt, adr, ms__law_is_integer]⟩
end Lk14
set_option maxHeartbeats 4000000
namespace Lk14
open PySem PySem.Spec PyProof.Rows L2 DL
theorem cr__law_same {P : Program} {w : World} {K : PySem.W.Frag} {mg : Str → Option Value} {base : Heap} {f : Addr} {fd : FuncData} (F : Fun K "_law_same" "_law_same" s__law_same f fd) (hb : Binds K fd ["_law_actual", "_law_due"] []) (hm : mg "_law_same" = some (.ref f)) (T : Bl mg) (C__law_is_integer : Cal P w K mg base "_law_is_integer" 1 ms__law_is_integer .fz g__law_is_integer) : ∀ n : Nat, Cal P w K mg base "_law_same" (1 + n) ms__law_same .fz (r__law_same n)
  | 0 => cal_none F hb hm
  | n + 1 => by
    have ih := cr__law_same (P := P) (w := w) (base := base) F hb hm T C__law_is_integer n
    exact cal_of F sc__law_same hb hm (d__law_same (r__law_same n)) rfl fun cdv A outer s H E hr vs hl => by
      match vs, hl with
        | [v0, v1], _ =>
          exact ⟨[.fz, .fz, .fz], [.fz, .fz, .fz], [.fz, .fz, .fz], [.fz, .fz, .fz],
       (show DSs _ [.fz, .fz, .fz] _ _ _ from (dss_cons (τ1 := [.fz, .fz, .fz]) (ds_if (dt_val (de_isi (T := "tuple") (de_var 1) T.b_isinstance T.b_tuple (by decide +kernel)))
       (dss_cons (τ1 := [.fz, .fz, .fz]) (ds_if (dt_w (dw_or (dt_not (dt_val (de_isi (T := "tuple") (de_var 0) T.b_isinstance T.b_tuple (by decide +kernel)))) (dw_or1 (dt_cmp (op_neD hr.units) og_ne (de_callR call_len cg_len (by decide +kernel) T.b_len (dr_de (de_var 0))) (de_callR call_len cg_len (by decide +kernel) T.b_len (dr_de (de_var 1)))))))
       (dss_one (ds_retF [0, 1, 2] de_bl))
       dss_nil) (dss_one (ds_retF [0, 1, 2] (de_callR (cr_all rfl) cg_all (by decide +kernel) T.b_all (dr_de (de_fz (de_lc (own := [("_law_k", 2)]) rfl sc__law_same.nd (di_range1 T.b_range (da_cons (de_callR call_len cg_len (by decide +kernel) T.b_len (dr_de (de_var 1))) da_nil)) (blkOk_by (own := [("_law_k", 2)]) (N := N__law_same) (sc := defScope s__law_same) (by decide +kernel)) (fun _ _ _ _ _ => (dg_name 2 sc__law_same.nd)) (fun _ _ _ _ _ => dts_nil) (fun _ _ _ _ _ => (de_call (ks := [.v, .v]) ih hr (dak_v (de_ix ix_seq og_ix (de_var 0) (de_var 2)) (dak_v (de_ix ix_seq og_ix (de_var 1) (de_var 2)) dak_nil)) (.cons .fz (.cons .fz .nil)))))))))))
       dss_nil) (dss_cons (τ1 := [.fz, .fz, .fz]) (ds_if (dt_val (de_isi (T := "list") (de_var 1) T.b_isinstance T.b_list (by decide +kernel)))
       (dss_cons (τ1 := [.fz, .fz, .fz]) (ds_if (dt_w (dw_or (dt_not (dt_val (de_isi (T := "list") (de_var 0) T.b_isinstance T.b_list (by decide +kernel)))) (dw_or1 (dt_cmp (op_neD hr.units) og_ne (de_callR call_len cg_len (by decide +kernel) T.b_len (dr_de (de_var 0))) (de_callR call_len cg_len (by decide +kernel) T.b_len (dr_de (de_var 1)))))))
       (dss_one (ds_retF [0, 1, 2] de_bl))
       dss_nil) (dss_one (ds_retF [0, 1, 2] (de_callR (cr_all rfl) cg_all (by decide +kernel) T.b_all (dr_de (de_fz (de_lc (own := [("_law_k", 2)]) rfl sc__law_same.nd (di_range1 T.b_range (da_cons (de_callR call_len cg_len (by decide +kernel) T.b_len (dr_de (de_var 1))) da_nil)) (blkOk_by (own := [("_law_k", 2)]) (N := N__law_same) (sc := defScope s__law_same) (by decide +kernel)) (fun _ _ _ _ _ => (dg_name 2 sc__law_same.nd)) (fun _ _ _ _ _ => dts_nil) (fun _ _ _ _ _ => (de_call (ks := [.v, .v]) ih hr (dak_v (de_ix ix_seq og_ix (de_var 0) (de_var 2)) (dak_v (de_ix ix_seq og_ix (de_var 1) (de_var 2)) dak_nil)) (.cons .fz (.cons .fz .nil)))))))))))
       dss_nil) (dss_cons (τ1 := [.fz, .fz, .fz]) (ds_if (dt_cmp op_isN og_isN (de_var 1) de_non)
       (dss_one (ds_retF [0, 1, 2] (de_cmp op_isN og_isN (de_var 0) de_non)))
       dss_nil) (dss_cons (τ1 := [.fz, .fz, .fz]) (ds_if (dt_val (de_isi (T := "bool") (de_var 1) T.b_isinstance T.b_bool (by decide +kernel)))
       (dss_one (ds_retF [0, 1, 2] (de_and (de_isi (T := "bool") (de_var 0) T.b_isinstance T.b_bool (by decide +kernel)) (de_one (de_cmp (op_eqD hr.units) og_eq (de_var 0) (de_var 1))))))
       dss_nil) (dss_cons (τ1 := [.fz, .fz, .fz]) (ds_if (dt_val (de_isi (T := "str") (de_var 1) T.b_isinstance T.b_str (by decide +kernel)))
       (dss_one (ds_retF [0, 1, 2] (de_and (de_isi (T := "str") (de_var 0) T.b_isinstance T.b_str (by decide +kernel)) (de_one (de_cmp (op_eqD hr.units) og_eq (de_var 0) (de_var 1))))))
       dss_nil) (dss_one (ds_retF [0, 1, 2] (de_and (de_call (ks := [.v]) C__law_is_integer (hr.mono (by first | decide | exact Nat.le_trans (by decide) (Nat.le_add_right _ _))) (dak_v (de_var 0) dak_nil) (.cons .fz .nil)) (de_one (de_cmp (op_eqD hr.units) og_eq (de_var 0) (de_var 1)))))))))))),
       by simp [DL.Keeps, fgt, adr, ms__law_same], fun _ => by simp [DL.Keeps, fgt, adr, ms__law_same]⟩
theorem c__law_same {P : Program} {w : World} {K : PySem.W.Frag} {mg : Str → Option Value} {base : Heap} {f : Addr} {fd : FuncData} (F : Fun K "_law_same" "_law_same" s__law_same f fd) (hb : Binds K fd ["_law_actual", "_law_due"] []) (hm : mg "_law_same" = some (.ref f)) (T : Bl mg) (C__law_is_integer : Cal P w K mg base "_law_is_integer" 1 ms__law_is_integer .fz g__law_is_integer) : Cal P w K mg base "_law_same" 9 ms__law_same .fz g__law_same := cr__law_same F hb hm T C__law_is_integer 8
end Lk14
set_option maxHeartbeats 4000000
namespace Lk14
open PySem PySem.Spec PyProof.Rows L2 DL
theorem c__law_ships {P : Program} {w : World} {K : PySem.W.Frag} {mg : Str → Option Value} {base : Heap} {f : Addr} {fd : FuncData} (F : Fun K "_law_ships" "_law_ships" s__law_ships f fd) (hb : Binds K fd ["_law_pool_here", "_law_bollards", "_law_many"] []) (hm : mg "_law_ships" = some (.ref f)) (T : Bl mg) (C__law_take : Cal P w K mg base "_law_take" 2 ms__law_take .fz g__law_take) : Cal P w K mg base "_law_ships" 3 ms__law_ships .fz g__law_ships :=
  cal_of F sc__law_ships hb hm d__law_ships rfl fun cdv A outer s H E hr vs hl => by
    match vs, hl with
    | [v0, v1, v2], _ =>
      exact ⟨[(.at (adr v0) (.ls .fz)), .fz, .fz, .fz, .fz, .fz, .fz], [(.at (adr v0) (.ls .fz)), .fz, .fz, .fz, .fz, .fz, .fz], [(.at (adr v0) (.ls .fz)), .fz, .fz, .fz, .fz, .fz, .fz], [(.at (adr v0) (.ls .fz)), .fz, .fz, .fz, .fz, .fz, .fz],
   (show DSs _ [(.at (adr v0) (.ls .fz)), .fz, .fz, .fz, .fz, .fz, .fz] _ _ _ from (dss_cons (τ1 := [(.at (adr v0) (.ls .fz)), .fz, .fz, (.ls .fz), .fz, .fz, .fz]) (ds_set 3 (de_lst FO.ls da_nil) sc__law_ships.nd) (dss_cons (τ1 := [(.at (adr v0) (.ls .fz)), .fz, .fz, (.ls .fz), .fz, .fz, .fz]) (ds_for (mask := [4, 5, 6]) (bk := [(.at (adr v0) (.ls .fz)), .fz, .fz, (.ls .fz), .fz, .fz, .fz]) (ct := [(.at (adr v0) (.ls .fz)), .fz, .fz, (.ls .fz), .fz, .fz, .fz]) .never rfl (di_range1 T.b_range (da_cons (de_call (ks := [.s 0, .v]) C__law_take (hr.mono (by first | decide | exact Nat.le_trans (by decide) (Nat.le_add_right _ _))) (dak_s 0 (dak_v (de_op op_add3 og_add (de_var 2) de_int) dak_nil)) (.cons (.mta rfl (by repeat constructor)) (.cons .fz .nil))) da_nil)) (dg_name 4 sc__law_ships.nd)
   (dss_cons (τ1 := [(.at (adr v0) (.ls .fz)), .fz, .fz, (.ls .fz), .fz, .fz, .fz]) (ds_set 5 (de_call (ks := [.s 0, .v]) C__law_take (hr.mono (by first | decide | exact Nat.le_trans (by decide) (Nat.le_add_right _ _))) (dak_s 0 (dak_v (de_var 1) dak_nil)) (.cons (.mta rfl (by repeat constructor)) (.cons .fz .nil))) sc__law_ships.nd) (dss_cons (τ1 := [(.at (adr v0) (.ls .fz)), .fz, .fz, (.ls .fz), .fz, .fz, .fz]) (ds_set 6 (de_op op_add3 og_add de_int (de_call (ks := [.s 0, .v]) C__law_take (hr.mono (by first | decide | exact Nat.le_trans (by decide) (Nat.le_add_right _ _))) (dak_s 0 (dak_v (de_op op_sub og_sub (de_var 1) (de_var 5)) dak_nil)) (.cons (.mta rfl (by repeat constructor)) (.cons .fz .nil)))) sc__law_ships.nd) (dss_one (ds_drop (de_mut 3 PySem.F.slot_list_append PySem.F.type_list_append mt_append mu_append (da_cons (de_tup (da_cons (de_var 5) (da_cons (de_var 6) (da_cons (de_call (ks := [.s 0, .v]) C__law_take (hr.mono (by first | decide | exact Nat.le_trans (by decide) (Nat.le_add_right _ _))) (dak_s 0 (dak_v (de_ix ix_seq og_ix (de_tup (da_cons de_int (da_cons de_int (da_cons de_int da_nil)))) (de_call (ks := [.s 0, .v]) C__law_take (hr.mono (by first | decide | exact Nat.le_trans (by decide) (Nat.le_add_right _ _))) (dak_s 0 (dak_v de_int dak_nil)) (.cons (.mta rfl (by repeat constructor)) (.cons .fz .nil)))) dak_nil)) (.cons (.mta rfl (by repeat constructor)) (.cons .fz .nil))) (da_cons (de_op op_add3 og_add de_int (de_call (ks := [.s 0, .v]) C__law_take (hr.mono (by first | decide | exact Nat.le_trans (by decide) (Nat.le_add_right _ _))) (dak_s 0 (dak_v de_int dak_nil)) (.cons (.mta rfl (by repeat constructor)) (.cons .fz .nil)))) da_nil))))) da_nil))))))) (dss_freeze 3 (dss_one (ds_retF [1, 2, 3, 4, 5, 6] (de_var 3))))))),
   by simp [DL.Keeps, fgt, adr, ms__law_ships], fun _ => by simp [DL.Keeps, fgt, adr, ms__law_ships]⟩
end Lk14
set_option maxHeartbeats 4000000
namespace Lk14
open PySem PySem.Spec PyProof.Rows L2 DL
theorem c__law_shares {P : Program} {w : World} {K : PySem.W.Frag} {mg : Str → Option Value} {base : Heap} {f : Addr} {fd : FuncData} (F : Fun K "_law_shares" "_law_shares" s__law_shares f fd) (hb : Binds K fd ["_law_one", "_law_other"] []) (hm : mg "_law_shares" = some (.ref f)) (T : Bl mg)  : Cal P w K mg base "_law_shares" 1 ms__law_shares .fz g__law_shares :=
  cal_of F sc__law_shares hb hm d__law_shares rfl fun cdv A outer s H E hr vs hl => by
    match vs, hl with
    | [v0, v1], _ =>
      exact ⟨[.fz, .fz], [.fz, .fz], [.fz, .fz], [.fz, .fz],
   (show DSs _ [.fz, .fz] _ _ _ from (dss_one (ds_retF [0, 1] (de_cmp op_lt og_lt (de_callB (call_max2 rfl) cg_max2 (by decide +kernel) T.b_max (da_cons (de_ix ix_seq og_ix (de_var 0) de_int) (da_cons (de_ix ix_seq og_ix (de_var 1) de_int) da_nil))) (de_callB (call_min2 rfl) cg_min2 (by decide +kernel) T.b_min (da_cons (de_op op_add3 og_add (de_ix ix_seq og_ix (de_var 0) de_int) (de_ix ix_seq og_ix (de_var 0) de_int)) (da_cons (de_op op_add3 og_add (de_ix ix_seq og_ix (de_var 1) de_int) (de_ix ix_seq og_ix (de_var 1) de_int)) da_nil))))))),
   by simp [DL.Keeps, fgt, adr, ms__law_shares], fun _ => by simp [DL.Keeps, fgt, adr, ms__law_shares]⟩
end Lk14
set_option maxHeartbeats 4000000
namespace Lk14
open PySem PySem.Spec PyProof.Rows L2 DL
theorem c__law_starts {P : Program} {w : World} {K : PySem.W.Frag} {mg : Str → Option Value} {base : Heap} {f : Addr} {fd : FuncData} (F : Fun K "_law_starts" "_law_starts" s__law_starts f fd) (hb : Binds K fd ["_law_ships_here"] []) (hm : mg "_law_starts" = some (.ref f)) (T : Bl mg) (C__law_shares : Cal P w K mg base "_law_shares" 1 ms__law_shares .fz g__law_shares) : Cal P w K mg base "_law_starts" 2 ms__law_starts .fz g__law_starts :=
  cal_of F sc__law_starts hb hm d__law_starts rfl fun cdv A outer s H E hr vs hl => by
    match vs, hl with
    | [v0], _ =>
      exact ⟨[.fz, .fz, .fz, .fz, .fz], [.fz, .fz, .fz, .fz, .fz], [.fz, .fz, .fz, .fz, .fz], [.fz, .fz, .fz, .fz, .fz],
   (show DSs _ [.fz, .fz, .fz, .fz, .fz] _ _ _ from (dss_cons (τ1 := [.fz, (.ls .fz), .fz, .fz, .fz]) (ds_set 1 (de_lst FO.ls da_nil) sc__law_starts.nd) (dss_cons (τ1 := [.fz, (.ls .fz), .fz, .fz, .fz]) (ds_for (mask := [2, 3]) (bk := [.fz, (.ls .fz), .fz, .fz, .fz]) (ct := [.fz, (.ls .fz), .fz, .fz, .fz]) .never rfl (di_range1 T.b_range (da_cons (de_callR call_len cg_len (by decide +kernel) T.b_len (dr_de (de_var 0))) da_nil)) (dg_name 2 sc__law_starts.nd)
   (dss_cons (τ1 := [.fz, (.ls .fz), .fz, (.ls .fz), .fz]) (ds_setLc 3 (own := [("_law_j", 4)]) rfl sc__law_starts.nd (di_range1 T.b_range (da_cons (de_var 2) da_nil)) (blkOk_by (own := [("_law_j", 4)]) (N := N__law_starts) (sc := defScope s__law_starts) (by decide +kernel)) (fun _ _ _ _ _ => (dg_name 4 sc__law_starts.nd)) (fun _ _ _ _ _ => (dts_one (dt_val (de_call (ks := [.v, .v]) C__law_shares (hr.mono (by first | decide | exact Nat.le_trans (by decide) (Nat.le_add_right _ _))) (dak_v (de_ix ix_seq og_ix (de_var 0) (de_var 4)) (dak_v (de_ix ix_seq og_ix (de_var 0) (de_var 2)) dak_nil)) (.cons .fz (.cons .fz .nil)))))) (fun _ _ _ _ _ => (de_op op_add3 og_add (de_ixo 1 (de_var 4) (by repeat constructor)) (de_ix ix_seq og_ix (de_ix ix_seq og_ix (de_var 0) (de_var 4)) de_int))) (sw_true rfl rfl rfl (by decide +kernel))) (dss_freeze 3 (dss_one (ds_drop (de_mut 1 PySem.F.slot_list_append PySem.F.type_list_append mt_append mu_append (da_cons (de_callR (cr_max rfl) cg_max (by decide +kernel) T.b_max (dr_de (de_op op_cat (og_cat FO.fz) (de_lst FO.fz (da_cons (de_ix ix_seq og_ix (de_ix ix_seq og_ix (de_var 0) (de_var 2)) de_int) da_nil)) (de_var 3)))) da_nil))))))) (dss_freeze 1 (dss_one (ds_retF [0, 1, 2, 3, 4] (de_var 1))))))),
   by simp [DL.Keeps, fgt, adr, ms__law_starts], fun _ => by simp [DL.Keeps, fgt, adr, ms__law_starts]⟩
end Lk14
set_option maxHeartbeats 4000000
namespace Lk14
open PySem PySem.Spec PyProof.Rows L2 DL
theorem c__law_meets {P : Program} {w : World} {K : PySem.W.Frag} {mg : Str → Option Value} {base : Heap} {f : Addr} {fd : FuncData} (F : Fun K "_law_meets" "_law_meets" s__law_meets f fd) (hb : Binds K fd ["_law_ships_here", "_law_plan", "_law_one", "_law_other"] []) (hm : mg "_law_meets" = some (.ref f)) (T : Bl mg) (C__law_shares : Cal P w K mg base "_law_shares" 1 ms__law_shares .fz g__law_shares) : Cal P w K mg base "_law_meets" 2 ms__law_meets .fz g__law_meets :=
  cal_of F sc__law_meets hb hm d__law_meets rfl fun cdv A outer s H E hr vs hl => by
    match vs, hl with
    | [v0, v1, v2, v3], _ =>
      exact ⟨[.fz, .fz, .fz, .fz, .fz], [.fz, .fz, .fz, .fz, .fz], [.fz, .fz, .fz, .fz, .fz], [.fz, .fz, .fz, .fz, .fz],
   (show DSs _ [.fz, .fz, .fz, .fz, .fz] _ _ _ from (dss_cons (τ1 := [.fz, .fz, .fz, .fz, .fz]) (ds_if (dt_not (dt_val (de_call (ks := [.v, .v]) C__law_shares (hr.mono (by first | decide | exact Nat.le_trans (by decide) (Nat.le_add_right _ _))) (dak_v (de_ix ix_seq og_ix (de_var 0) (de_var 2)) (dak_v (de_ix ix_seq og_ix (de_var 0) (de_var 3)) dak_nil)) (.cons .fz (.cons .fz .nil)))))
   (dss_one (ds_retF [0, 1, 2, 3, 4] de_bl))
   dss_nil) (dss_cons (τ1 := [.fz, .fz, .fz, .fz, .fz]) (ds_set 4 (de_callB (call_max2 rfl) cg_max2 (by decide +kernel) T.b_max (da_cons (de_ix ix_seq og_ix (de_var 1) (de_var 2)) (da_cons (de_ix ix_seq og_ix (de_var 1) (de_var 3)) da_nil))) sc__law_meets.nd) (dss_one (ds_retF [0, 1, 2, 3, 4] (de_and (de_cmp op_lt og_lt (de_var 4) (de_op op_add3 og_add (de_ix ix_seq og_ix (de_var 1) (de_var 2)) (de_ix ix_seq og_ix (de_ix ix_seq og_ix (de_var 0) (de_var 2)) de_int))) (de_one (de_cmp op_lt og_lt (de_var 4) (de_op op_add3 og_add (de_ix ix_seq og_ix (de_var 1) (de_var 3)) (de_ix ix_seq og_ix (de_ix ix_seq og_ix (de_var 0) (de_var 3)) de_int)))))))))),
   by simp [DL.Keeps, fgt, adr, ms__law_meets], fun _ => by simp [DL.Keeps, fgt, adr, ms__law_meets]⟩
end Lk14
set_option maxHeartbeats 4000000
namespace Lk14
open PySem PySem.Spec PyProof.Rows L2 DL
theorem c__law_orders {P : Program} {w : World} {K : PySem.W.Frag} {mg : Str → Option Value} {base : Heap} {f : Addr} {fd : FuncData} (F : Fun K "_law_orders" "_law_orders" s__law_orders f fd) (hb : Binds K fd ["_law_many"] []) (hm : mg "_law_orders" = some (.ref f)) (T : Bl mg)  : Cal P w K mg base "_law_orders" 1 ms__law_orders .fz g__law_orders :=
  cal_of F sc__law_orders hb hm d__law_orders rfl fun cdv A outer s H E hr vs hl => by
    match vs, hl with
    | [v0], _ =>
      exact ⟨[.fz, .fz, .fz, .fz, .fz, .fz], [.fz, .fz, .fz, .fz, .fz, .fz], [.fz, .fz, .fz, .fz, .fz, .fz], [.fz, .fz, .fz, .fz, .fz, .fz],
   (show DSs _ [.fz, .fz, .fz, .fz, .fz, .fz] _ _ _ from (dss_cons (τ1 := [.fz, .fz, .fz, .fz, .fz, .fz]) (ds_set 1 (de_lst FO.fz (da_cons (de_tup da_nil) da_nil)) sc__law_orders.nd) (dss_cons (τ1 := [.fz, .fz, .fz, .fz, .fz, .fz]) (ds_for (mask := [2, 3, 4]) (bk := [.fz, .fz, .fz, .fz, .fz, .fz]) (ct := [.fz, .fz, .fz, .fz, .fz, .fz]) .never rfl (di_range1 T.b_range (da_cons (de_var 0) da_nil)) (dg_name 2 sc__law_orders.nd)
   (dss_cons (τ1 := [.fz, .fz, .fz, (.ls .fz), .fz, .fz]) (ds_set 3 (de_lst FO.ls da_nil) sc__law_orders.nd) (dss_cons (τ1 := [.fz, .fz, .fz, (.ls .fz), .fz, .fz]) (ds_for (mask := [4]) (bk := [.fz, .fz, .fz, (.ls .fz), .fz, .fz]) (ct := [.fz, .fz, .fz, (.ls .fz), .fz, .fz]) .never rfl (di_seq (de_var 1)) (dg_name 4 sc__law_orders.nd)
   (dss_one (ds_drop (de_mut 3 PySem.F.slot_list_extend PySem.F.type_list_extend mt_extend mu_extend (da_cons (de_fz (de_lc (own := [("_law_number", 5)]) rfl sc__law_orders.nd (di_range1 T.b_range (da_cons (de_var 0) da_nil)) (blkOk_by (own := [("_law_number", 5)]) (N := N__law_orders) (sc := defScope s__law_orders) (by decide +kernel)) (fun _ _ _ _ _ => (dg_name 5 sc__law_orders.nd)) (fun _ _ _ _ _ => (dts_one (dt_in op_notIn2 (de_var 5) (dr_de (de_var 4))))) (fun _ _ _ _ _ => (de_op op_add3 og_add (de_var 4) (de_tup (da_cons (de_var 5) da_nil)))))) da_nil))))) (dss_freeze 3 (dss_one (ds_set 1 (de_var 3) sc__law_orders.nd)))))) (dss_one (ds_retF [0, 1, 2, 3, 4, 5] (de_var 1)))))),
   by simp [DL.Keeps, fgt, adr, ms__law_orders], fun _ => by simp [DL.Keeps, fgt, adr, ms__law_orders]⟩
end Lk14
set_option maxHeartbeats 4000000
namespace Lk14
open PySem PySem.Spec PyProof.Rows L2 DL
theorem c__law_waiting {P : Program} {w : World} {K : PySem.W.Frag} {mg : Str → Option Value} {base : Heap} {f : Addr} {fd : FuncData} (F : Fun K "_law_waiting" "_law_waiting" s__law_waiting f fd) (hb : Binds K fd ["_law_ships_here", "_law_order"] []) (hm : mg "_law_waiting" = some (.ref f)) (T : Bl mg) (C__law_starts : Cal P w K mg base "_law_starts" 2 ms__law_starts .fz g__law_starts) : Cal P w K mg base "_law_waiting" 3 ms__law_waiting .fz g__law_waiting :=
  cal_of F sc__law_waiting hb hm d__law_waiting rfl fun cdv A outer s H E hr vs hl => by
    match vs, hl with
    | [v0, v1], _ =>
      exact ⟨[.fz, .fz, .fz, .fz, .fz], [.fz, .fz, .fz, .fz, .fz], [.fz, .fz, .fz, .fz, .fz], [.fz, .fz, .fz, .fz, .fz],
   (show DSs _ [.fz, .fz, .fz, .fz, .fz] _ _ _ from (dss_cons (τ1 := [.fz, .fz, .fz, .fz, .fz]) (ds_set 2 (de_call (ks := [.v]) C__law_starts (hr.mono (by first | decide | exact Nat.le_trans (by decide) (Nat.le_add_right _ _))) (dak_v (de_fz (de_lc (own := [("_law_k", 3)]) rfl sc__law_waiting.nd (di_seq (de_var 1)) (blkOk_by (own := [("_law_k", 3)]) (N := N__law_waiting) (sc := defScope s__law_waiting) (by decide +kernel)) (fun _ _ _ _ _ => (dg_name 3 sc__law_waiting.nd)) (fun _ _ _ _ _ => dts_nil) (fun _ _ _ _ _ => (de_ix ix_seq og_ix (de_var 0) (de_var 3))))) dak_nil) (.cons .fz .nil)) sc__law_waiting.nd) (dss_one (ds_retF [0, 1, 2, 3, 4] (de_op op_sub og_sub (de_callR (cr_sum2 rfl) cg_sum (by decide +kernel) T.b_sum (dr_de (de_var 2))) (de_callR (cr_sum2 rfl) cg_sum (by decide +kernel) T.b_sum (dr_de (de_fz (de_lc (own := [("_law_one", 4)]) rfl sc__law_waiting.nd (di_seq (de_var 0)) (blkOk_by (own := [("_law_one", 4)]) (N := N__law_waiting) (sc := defScope s__law_waiting) (by decide +kernel)) (fun _ _ _ _ _ => (dg_name 4 sc__law_waiting.nd)) (fun _ _ _ _ _ => dts_nil) (fun _ _ _ _ _ => (de_ix ix_seq og_ix (de_var 4) de_int))))))))))),
   by simp [DL.Keeps, fgt, adr, ms__law_waiting], fun _ => by simp [DL.Keeps, fgt, adr, ms__law_waiting]⟩
end Lk14
set_option maxHeartbeats 4000000
namespace Lk14
open PySem PySem.Spec PyProof.Rows L2 DL
theorem c__law_is_feasible {P : Program} {w : World} {K : PySem.W.Frag} {mg : Str → Option Value} {base : Heap} {f : Addr} {fd : FuncData} (F : Fun K "_law_is_feasible" "_law_is_feasible" s__law_is_feasible f fd) (hb : Binds K fd ["_law_ships_here", "_law_plan"] []) (hm : mg "_law_is_feasible" = some (.ref f)) (T : Bl mg) (C__law_meets : Cal P w K mg base "_law_meets" 2 ms__law_meets .fz g__law_meets) : Cal P w K mg base "_law_is_feasible" 3 ms__law_is_feasible .fz g__law_is_feasible :=
  cal_of F sc__law_is_feasible hb hm d__law_is_feasible rfl fun cdv A outer s H E hr vs hl => by
    match vs, hl with
    | [v0, v1], _ =>
      exact ⟨[.fz, .fz, .fz, .fz], [.fz, .fz, .fz, .fz], [.fz, .fz, .fz, .fz], [.fz, .fz, .fz, .fz],
   (show DSs _ [.fz, .fz, .fz, .fz] _ _ _ from (dss_cons (τ1 := [.fz, .fz, .fz, .fz]) (ds_for (mask := [2, 3]) (bk := [.fz, .fz, .fz, .fz]) (ct := [.fz, .fz, .fz, .fz]) .never rfl (di_range1 T.b_range (da_cons (de_callR call_len cg_len (by decide +kernel) T.b_len (dr_de (de_var 0))) da_nil)) (dg_name 2 sc__law_is_feasible.nd)
   (dss_cons (τ1 := [.fz, .fz, .fz, .fz]) (ds_if (dt_cmp op_lt og_lt (de_ix ix_seq og_ix (de_var 1) (de_var 2)) (de_ix ix_seq og_ix (de_ix ix_seq og_ix (de_var 0) (de_var 2)) de_int))
   (dss_one (ds_retF [0, 1, 2, 3] de_bl))
   dss_nil) (dss_one (ds_for (mask := [3]) (bk := [.fz, .fz, .fz, .fz]) (ct := [.fz, .fz, .fz, .fz]) .never rfl (di_range1 T.b_range (da_cons (de_var 2) da_nil)) (dg_name 3 sc__law_is_feasible.nd)
   (dss_one (ds_if (dt_val (de_call (ks := [.v, .v, .v, .v]) C__law_meets (hr.mono (by first | decide | exact Nat.le_trans (by decide) (Nat.le_add_right _ _))) (dak_v (de_var 0) (dak_v (de_var 1) (dak_v (de_var 3) (dak_v (de_var 2) dak_nil)))) (.cons .fz (.cons .fz (.cons .fz (.cons .fz .nil))))))
   (dss_one (ds_retF [0, 1, 2, 3] de_bl))
   dss_nil)))))) (dss_one (ds_retF [0, 1, 2, 3] de_bl)))),
   by simp [DL.Keeps, fgt, adr, ms__law_is_feasible], fun _ => by simp [DL.Keeps, fgt, adr, ms__law_is_feasible]⟩
end Lk14
set_option maxHeartbeats 4000000
namespace Lk14
open PySem PySem.Spec PyProof.Rows L2 DL
theorem c__law_no_better {P : Program} {w : World} {K : PySem.W.Frag} {mg : Str → Option Value} {base : Heap} {f : Addr} {fd : FuncData} (F : Fun K "_law_no_better" "_law_no_better" s__law_no_better f fd) (hb : Binds K fd ["_law_ships_here", "_law_least"] []) (hm : mg "_law_no_better" = some (.ref f)) (T : Bl mg) (C__law_is_feasible : Cal P w K mg base "_law_is_feasible" 3 ms__law_is_feasible .fz g__law_is_feasible) : Cal P w K mg base "_law_no_better" 4 ms__law_no_better .fz g__law_no_better :=
  cal_of F sc__law_no_better hb hm d__law_no_better rfl fun cdv A outer s H E hr vs hl => by
    match vs, hl with
    | [v0, v1], _ =>
      exact ⟨[.fz, .fz, .fz, .fz, .fz, .fz, .fz, .fz, .fz, .fz], [.fz, .fz, .fz, .fz, .fz, .fz, .fz, .fz, .fz, .fz], [.fz, .fz, .fz, .fz, .fz, .fz, .fz, .fz, .fz, .fz], [.fz, .fz, .fz, .fz, .fz, .fz, .fz, .fz, .fz, .fz],
   (show DSs _ [.fz, .fz, .fz, .fz, .fz, .fz, .fz, .fz, .fz, .fz] _ _ _ from (dss_cons (τ1 := [.fz, .fz, .fz, .fz, .fz, .fz, .fz, .fz, .fz, .fz]) (ds_set 2 (de_callR (cr_min rfl) cg_min (by decide +kernel) T.b_min (dr_de (de_fz (de_lc (own := [("_law_one", 8)]) rfl sc__law_no_better.nd (di_seq (de_var 0)) (blkOk_by (own := [("_law_one", 8)]) (N := N__law_no_better) (sc := defScope s__law_no_better) (by decide +kernel)) (fun _ _ _ _ _ => (dg_name 8 sc__law_no_better.nd)) (fun _ _ _ _ _ => dts_nil) (fun _ _ _ _ _ => (de_ix ix_seq og_ix (de_var 8) de_int)))))) sc__law_no_better.nd) (dss_cons (τ1 := [.fz, .fz, .fz, .fz, .fz, .fz, .fz, .fz, .fz, .fz]) (ds_set 3 (de_lst FO.fz (da_cons (de_tup da_nil) da_nil)) sc__law_no_better.nd) (dss_cons (τ1 := [.fz, .fz, .fz, .fz, .fz, .fz, .fz, .fz, .fz, .fz]) (ds_for (mask := [4, 5, 6]) (bk := [.fz, .fz, .fz, .fz, .fz, .fz, .fz, .fz, .fz, .fz]) (ct := [.fz, .fz, .fz, .fz, .fz, .fz, .fz, .fz, .fz, .fz]) .never rfl (di_range1 T.b_range (da_cons (de_callR call_len cg_len (by decide +kernel) T.b_len (dr_de (de_var 0))) da_nil)) (dg_name 4 sc__law_no_better.nd)
   (dss_cons (τ1 := [.fz, .fz, .fz, .fz, .fz, (.ls .fz), .fz, .fz, .fz, .fz]) (ds_set 5 (de_lst FO.ls da_nil) sc__law_no_better.nd) (dss_cons (τ1 := [.fz, .fz, .fz, .fz, .fz, (.ls .fz), .fz, .fz, .fz, .fz]) (ds_for (mask := [6]) (bk := [.fz, .fz, .fz, .fz, .fz, (.ls .fz), .fz, .fz, .fz, .fz]) (ct := [.fz, .fz, .fz, .fz, .fz, (.ls .fz), .fz, .fz, .fz, .fz]) .never rfl (di_seq (de_var 3)) (dg_name 6 sc__law_no_better.nd)
   (dss_one (ds_drop (de_mut 5 PySem.F.slot_list_extend PySem.F.type_list_extend mt_extend mu_extend (da_cons (de_fz (de_lc (own := [("_law_start", 9)]) rfl sc__law_no_better.nd (di_range2 T.b_range (da_cons (de_var 2) (da_cons (de_op op_add3 og_add (de_var 2) de_int) da_nil))) (blkOk_by (own := [("_law_start", 9)]) (N := N__law_no_better) (sc := defScope s__law_no_better) (by decide +kernel)) (fun _ _ _ _ _ => (dg_name 9 sc__law_no_better.nd)) (fun _ _ _ _ _ => dts_nil) (fun _ _ _ _ _ => (de_op op_add3 og_add (de_var 6) (de_tup (da_cons (de_var 9) da_nil)))))) da_nil))))) (dss_freeze 5 (dss_one (ds_set 3 (de_var 5) sc__law_no_better.nd)))))) (dss_cons (τ1 := [.fz, .fz, .fz, .fz, .fz, .fz, .fz, .fz, .fz, .fz]) (ds_for (mask := [7]) (bk := [.fz, .fz, .fz, .fz, .fz, .fz, .fz, .fz, .fz, .fz]) (ct := [.fz, .fz, .fz, .fz, .fz, .fz, .fz, .fz, .fz, .fz]) .never rfl (di_seq (de_var 3)) (dg_name 6 sc__law_no_better.nd)
   (dss_cons (τ1 := [.fz, .fz, .fz, .fz, .fz, .fz, .fz, .fz, .fz, .fz]) (ds_set 7 (de_op op_sub og_sub (de_callR (cr_sum2 rfl) cg_sum (by decide +kernel) T.b_sum (dr_de (de_var 6))) (de_callR (cr_sum2 rfl) cg_sum (by decide +kernel) T.b_sum (dr_de (de_fz (de_lc (own := [("_law_one", 8)]) rfl sc__law_no_better.nd (di_seq (de_var 0)) (blkOk_by (own := [("_law_one", 8)]) (N := N__law_no_better) (sc := defScope s__law_no_better) (by decide +kernel)) (fun _ _ _ _ _ => (dg_name 8 sc__law_no_better.nd)) (fun _ _ _ _ _ => dts_nil) (fun _ _ _ _ _ => (de_ix ix_seq og_ix (de_var 8) de_int))))))) sc__law_no_better.nd) (dss_one (ds_if (dt_w (dw_and (dt_cmp op_lt og_lt (de_var 7) (de_var 1)) (dw_and1 (dt_val (de_call (ks := [.v, .v]) C__law_is_feasible (hr.mono (by first | decide | exact Nat.le_trans (by decide) (Nat.le_add_right _ _))) (dak_v (de_var 0) (dak_v (de_var 6) dak_nil)) (.cons .fz (.cons .fz .nil)))))))
   (dss_one (ds_retF [0, 1, 2, 3, 4, 5, 6, 7, 8, 9] de_bl))
   dss_nil)))) (dss_one (ds_retF [0, 1, 2, 3, 4, 5, 6, 7, 8, 9] de_bl))))))),
   by simp [DL.Keeps, fgt, adr, ms__law_no_better], fun _ => by simp [DL.Keeps, fgt, adr, ms__law_no_better]⟩
end Lk14
set_option maxHeartbeats 4000000
namespace Lk14
open PySem PySem.Spec PyProof.Rows L2 DL
theorem c_law {P : Program} {w : World} {K : PySem.W.Frag} {mg : Str → Option Value} {base : Heap} {f : Addr} {fd : FuncData} (F : Fun K "law" "law" s_law f fd) (hb : Binds K fd ["_law_script"] []) (hm : mg "law" = some (.ref f)) (T : Bl mg) (C__law_pool : Cal P w K mg base "_law_pool" 1 ms__law_pool (.ls .fz) g__law_pool) (C__law_take : Cal P w K mg base "_law_take" 2 ms__law_take .fz g__law_take) (C__law_ships : Cal P w K mg base "_law_ships" 3 ms__law_ships .fz g__law_ships) (C__law_orders : Cal P w K mg base "_law_orders" 1 ms__law_orders .fz g__law_orders) (C__law_waiting : Cal P w K mg base "_law_waiting" 3 ms__law_waiting .fz g__law_waiting) (C__law_same : Cal P w K mg base "_law_same" 9 ms__law_same .fz g__law_same) (C_best_order : Cal P w K mg base "best_order" 3 ms_best_order .fz g_best_order) (C_starts : Cal P w K mg base "starts" 2 ms_starts .fz g_starts) (C_conflicts : Cal P w K mg base "conflicts" 3 ms_conflicts .fz g_conflicts) (C_waiting : Cal P w K mg base "waiting" 5 ms_waiting .fz g_waiting) (C__law_no_better : Cal P w K mg base "_law_no_better" 4 ms__law_no_better .fz g__law_no_better) : FnOk P w K mg base (L2.CX P w) 10 f fd ["_law_script"] (SpD mg K ms_law .fz g_law) :=
  fn_of F sc_law d_law rfl fun cdv A outer s H E hr vs hl => by
    match vs, hl with
    | [v0], _ =>
      exact ⟨[(.br (adr v0)), .fz, .fz, .fz, .fz, .fz, .fz, .fz, .fz, .fz, .fz, .fz], [(.br (adr v0)), .fz, .fz, .fz, .fz, .fz, .fz, .fz, .fz, .fz, .fz, .fz], [(.br (adr v0)), .fz, .fz, .fz, .fz, .fz, .fz, .fz, .fz, .fz, .fz, .fz], [.fz, .fz, .fz, .fz, .fz, .fz, .fz, .fz, .fz, .fz, .fz, .fz],
   (show DSs _ [(.br (adr v0)), .fz, .fz, .fz, .fz, .fz, .fz, .fz, .fz, .fz, .fz, .fz] _ _ _ from (dss_cons (τ1 := [(.br (adr v0)), (.ls .fz), .fz, .fz, .fz, .fz, .fz, .fz, .fz, .fz, .fz, .fz]) (ds_set 1 (de_call (ks := [.s 0]) C__law_pool (hr.mono (by first | decide | exact Nat.le_trans (by decide) (Nat.le_add_right _ _))) (dak_s 0 dak_nil) (.cons (.br (by repeat constructor)) .nil)) sc_law.nd) (dss_cons (τ1 := [(.br (adr v0)), (.ls .fz), .fz, .fz, .fz, .fz, .fz, .fz, .fz, .fz, .fz, .fz]) (ds_set 2 (de_op op_add3 og_add de_int (de_call (ks := [.s 1, .v]) C__law_take (hr.mono (by first | decide | exact Nat.le_trans (by decide) (Nat.le_add_right _ _))) (dak_s 1 (dak_v de_int dak_nil)) (.cons (.mt rfl (by repeat constructor)) (.cons .fz .nil)))) sc_law.nd) (dss_cons (τ1 := [(.br (adr v0)), (.ls .fz), .fz, .fz, .fz, .fz, .fz, .fz, .fz, .fz, .fz, .fz]) (ds_set 3 (de_op op_cat (og_cat FO.fz) (de_call (ks := [.s 1, .v, .v]) C__law_ships (hr.mono (by first | decide | exact Nat.le_trans (by decide) (Nat.le_add_right _ _))) (dak_s 1 (dak_v (de_var 2) (dak_v de_int dak_nil))) (.cons (.mt rfl (by repeat constructor)) (.cons .fz (.cons .fz .nil)))) (de_lst FO.fz (da_cons (de_tup (da_cons de_int (da_cons (de_op op_add3 og_add de_int (de_call (ks := [.s 1, .v]) C__law_take (hr.mono (by first | decide | exact Nat.le_trans (by decide) (Nat.le_add_right _ _))) (dak_s 1 (dak_v (de_var 2) dak_nil)) (.cons (.mt rfl (by repeat constructor)) (.cons .fz .nil)))) (da_cons (de_call (ks := [.s 1, .v]) C__law_take (hr.mono (by first | decide | exact Nat.le_trans (by decide) (Nat.le_add_right _ _))) (dak_s 1 (dak_v de_int dak_nil)) (.cons (.mt rfl (by repeat constructor)) (.cons .fz .nil))) (da_cons (de_op op_add3 og_add de_int (de_call (ks := [.s 1, .v]) C__law_take (hr.mono (by first | decide | exact Nat.le_trans (by decide) (Nat.le_add_right _ _))) (dak_s 1 (dak_v de_int dak_nil)) (.cons (.mt rfl (by repeat constructor)) (.cons .fz .nil)))) da_nil))))) da_nil))) sc_law.nd) (dss_cons (τ1 := [(.br (adr v0)), (.ls .fz), .fz, .fz, .fz, .fz, .fz, .fz, .fz, .fz, .fz, .fz]) (ds_set 4 (de_cmp (op_eqD hr.units) og_eq (de_call (ks := [.s 1, .v]) C__law_take (hr.mono (by first | decide | exact Nat.le_trans (by decide) (Nat.le_add_right _ _))) (dak_s 1 (dak_v de_int dak_nil)) (.cons (.mt rfl (by repeat constructor)) (.cons .fz .nil))) de_int) sc_law.nd) (dss_cons (τ1 := [(.br (adr v0)), (.ls .fz), .fz, .fz, .fz, .fz, .fz, .fz, .fz, .fz, .fz, .fz]) (ds_if (dt_val (de_var 4))
   (dss_one (ds_set 3 (de_fz (de_lc (own := [("_law_one", 11)]) rfl sc_law.nd (di_seq (de_slice (de_var 3) (do_some (de_un un_neg ug_neg de_int)) do_none)) (blkOk_by (own := [("_law_one", 11)]) (N := N_law) (sc := defScope s_law) (by decide +kernel)) (fun _ _ _ _ _ => (dg_name 11 sc_law.nd)) (fun _ _ _ _ _ => dts_nil) (fun _ _ _ _ _ => (de_tup (da_cons (de_ix ix_seq og_ix (de_var 11) de_int) (da_cons (de_ix ix_seq og_ix (de_var 11) de_int) (da_cons (de_op op_sub og_sub (de_ix ix_seq og_ix (de_var 11) de_int) (de_op op_mul og_mul (de_op op_fdiv og_div (de_ix ix_seq og_ix (de_var 11) de_int) de_int) de_int)) (da_cons (de_op op_sub og_sub (de_op op_add3 og_add de_int (de_ix ix_seq og_ix (de_var 11) de_int)) (de_op op_mul og_mul (de_op op_fdiv og_div (de_ix ix_seq og_ix (de_var 11) de_int) de_int) de_int)) da_nil)))))))) sc_law.nd))
   dss_nil) (dss_cons (τ1 := [(.br (adr v0)), (.ls .fz), .fz, .fz, .fz, .fz, .fz, .fz, .fz, .fz, .fz, .fz]) (ds_set 5 de_non sc_law.nd) (dss_cons (τ1 := [(.br (adr v0)), (.ls .fz), .fz, .fz, .fz, .fz, .fz, .fz, .fz, .fz, .fz, .fz]) (ds_for (mask := [6, 7]) (bk := [(.br (adr v0)), (.ls .fz), .fz, .fz, .fz, .fz, .fz, .fz, .fz, .fz, .fz, .fz]) (ct := [(.br (adr v0)), (.ls .fz), .fz, .fz, .fz, .fz, .fz, .fz, .fz, .fz, .fz, .fz]) .never rfl (di_seq (de_call (ks := [.v]) C__law_orders (hr.mono (by first | decide | exact Nat.le_trans (by decide) (Nat.le_add_right _ _))) (dak_v (de_callR call_len cg_len (by decide +kernel) T.b_len (dr_de (de_var 3))) dak_nil) (.cons .fz .nil))) (dg_name 6 sc_law.nd)
   (dss_cons (τ1 := [(.br (adr v0)), (.ls .fz), .fz, .fz, .fz, .fz, .fz, .fz, .fz, .fz, .fz, .fz]) (ds_set 7 (de_call (ks := [.v, .v]) C__law_waiting (hr.mono (by first | decide | exact Nat.le_trans (by decide) (Nat.le_add_right _ _))) (dak_v (de_var 3) (dak_v (de_var 6) dak_nil)) (.cons .fz (.cons .fz .nil))) sc_law.nd) (dss_one (ds_if (dt_w (dw_or (dt_cmp op_isN og_isN (de_var 5) de_non) (dw_or1 (dt_cmp op_lt og_lt (de_var 7) (de_ix ix_seq og_ix (de_var 5) de_int)))))
   (dss_one (ds_set 5 (de_tup (da_cons (de_var 6) (da_cons (de_var 7) da_nil))) sc_law.nd))
   dss_nil)))) (dss_cons (τ1 := [(.br (adr v0)), (.ls .fz), .fz, .fz, .fz, .fz, .fz, .fz, .fz, .fz, .fz, .fz]) (ds_if (dt_not (dt_val (de_call (ks := [.v, .v]) C__law_same (hr.mono (by first | decide | exact Nat.le_trans (by decide) (Nat.le_add_right _ _))) (dak_v (de_call (ks := [.v]) C_best_order (hr.mono (by first | decide | exact Nat.le_trans (by decide) (Nat.le_add_right _ _))) (dak_v (de_var 3) dak_nil) (.cons .fz .nil)) (dak_v (de_var 5) dak_nil)) (.cons .fz (.cons .fz .nil)))))
   (dss_one (ds_retF [0, 1, 2, 3, 4, 5, 6, 7, 8, 9, 10, 11] de_bl))
   dss_nil) (dss_cons (τ1 := [(.br (adr v0)), (.ls .fz), .fz, .fz, .fz, .fz, .fz, .fz, .fz, .fz, .fz, .fz]) (ds_set 8 (de_call (ks := [.v]) C_starts (hr.mono (by first | decide | exact Nat.le_trans (by decide) (Nat.le_add_right _ _))) (dak_v (de_fz (de_lc (own := [("_law_k", 10)]) rfl sc_law.nd (di_seq (de_ix ix_seq og_ix (de_var 5) de_int)) (blkOk_by (own := [("_law_k", 10)]) (N := N_law) (sc := defScope s_law) (by decide +kernel)) (fun _ _ _ _ _ => (dg_name 10 sc_law.nd)) (fun _ _ _ _ _ => dts_nil) (fun _ _ _ _ _ => (de_ix ix_seq og_ix (de_var 3) (de_var 10))))) dak_nil) (.cons .fz .nil)) sc_law.nd) (dss_cons (τ1 := [(.br (adr v0)), (.ls .fz), .fz, .fz, .fz, .fz, .fz, .fz, .fz, (.ls .fz), .fz, .fz]) (ds_setLc 9 (own := [("_law_k", 10)]) rfl sc_law.nd (di_range1 T.b_range (da_cons (de_callR call_len cg_len (by decide +kernel) T.b_len (dr_de (de_var 3))) da_nil)) (blkOk_by (own := [("_law_k", 10)]) (N := N_law) (sc := defScope s_law) (by decide +kernel)) (fun _ _ _ _ _ => (dg_name 10 sc_law.nd)) (fun _ _ _ _ _ => dts_nil) (fun _ _ _ _ _ => (de_ix ix_seq og_ix (de_var 8) (de_tupIndex (de_ix ix_seq og_ix (de_var 5) de_int) (de_var 10)))) (sw_true rfl rfl rfl (by decide +kernel))) (dss_freeze 9 (dss_cons (τ1 := [(.br (adr v0)), (.ls .fz), .fz, .fz, .fz, .fz, .fz, .fz, .fz, .fz, .fz, .fz]) (ds_if (dt_w (dw_or (dt_not (dt_val (de_call (ks := [.v, .v]) C__law_same (hr.mono (by first | decide | exact Nat.le_trans (by decide) (Nat.le_add_right _ _))) (dak_v (de_call (ks := [.v, .v]) C_conflicts (hr.mono (by first | decide | exact Nat.le_trans (by decide) (Nat.le_add_right _ _))) (dak_v (de_var 3) (dak_v (de_var 9) dak_nil)) (.cons .fz (.cons .fz .nil))) (dak_v (de_tup (da_cons (de_tup da_nil) (da_cons (de_tup da_nil) da_nil))) dak_nil)) (.cons .fz (.cons .fz .nil))))) (dw_or1 (dt_not (dt_val (de_call (ks := [.v, .v]) C__law_same (hr.mono (by first | decide | exact Nat.le_trans (by decide) (Nat.le_add_right _ _))) (dak_v (de_call (ks := [.v, .v]) C_waiting (hr.mono (by first | decide | exact Nat.le_trans (by decide) (Nat.le_add_right _ _))) (dak_v (de_var 3) (dak_v (de_var 9) dak_nil)) (.cons .fz (.cons .fz .nil))) (dak_v (de_ix ix_seq og_ix (de_var 5) de_int) dak_nil)) (.cons .fz (.cons .fz .nil))))))))
   (dss_one (ds_retF [0, 1, 2, 3, 4, 5, 6, 7, 8, 9, 10, 11] de_bl))
   dss_nil) (dss_one (ds_retF [0, 1, 2, 3, 4, 5, 6, 7, 8, 9, 10, 11] (de_or (de_not (de_var 4)) (de_one (de_call (ks := [.v, .v]) C__law_no_better (hr.mono (by first | decide | exact Nat.le_trans (by decide) (Nat.le_add_right _ _))) (dak_v (de_var 3) (dak_v (de_ix ix_seq og_ix (de_var 5) de_int) dak_nil)) (.cons .fz (.cons .fz .nil)))))))))))))))))))),
   by simp [DL.Keeps, fgt, adr, ms_law], fun _ => by simp [DL.Keeps, fgt, adr, ms_law]⟩
end Lk14
set_option maxHeartbeats 4000000
namespace Lk14
open PySem PySem.Spec PyProof.Rows L2 DL
theorem all_mk {P : Program} {w : World} {K : PySem.W.Frag} {h : Heap} {mg : Str → Option Value} {fa : Addr} (X : K.In h) (G : h.Ns mainGlobals mg) (hfa : mg "law" = some (.ref fa))
    {f0 : Addr} {od0 an0 : Option Addr} {sl0 : Array (Option Value)} {oc0 kV0 dc0 pm0 cd0 ct0 : Value}
    {f1 : Addr} {od1 an1 : Option Addr} {sl1 : Array (Option Value)} {oc1 kV1 dc1 pm1 cd1 ct1 : Value}
    {f2 : Addr} {od2 an2 : Option Addr} {sl2 : Array (Option Value)} {oc2 kV2 dc2 pm2 cd2 ct2 : Value}
    {f3 : Addr} {od3 an3 : Option Addr} {sl3 : Array (Option Value)} {oc3 kV3 dc3 pm3 cd3 ct3 : Value}
    {f4 : Addr} {od4 an4 : Option Addr} {sl4 : Array (Option Value)} {oc4 kV4 dc4 pm4 cd4 ct4 : Value}
    {f5 : Addr} {od5 an5 : Option Addr} {sl5 : Array (Option Value)} {oc5 kV5 dc5 pm5 cd5 ct5 : Value}
    {f6 : Addr} {od6 an6 : Option Addr} {sl6 : Array (Option Value)} {oc6 kV6 dc6 pm6 cd6 ct6 : Value}
    {f7 : Addr} {od7 an7 : Option Addr} {sl7 : Array (Option Value)} {oc7 kV7 dc7 pm7 cd7 ct7 : Value}
    {f8 : Addr} {od8 an8 : Option Addr} {sl8 : Array (Option Value)} {oc8 kV8 dc8 pm8 cd8 ct8 : Value}
    {f9 : Addr} {od9 an9 : Option Addr} {sl9 : Array (Option Value)} {oc9 kV9 dc9 pm9 cd9 ct9 : Value}
    {f10 : Addr} {od10 an10 : Option Addr} {sl10 : Array (Option Value)} {oc10 kV10 dc10 pm10 cd10 ct10 : Value}
    {f11 : Addr} {od11 an11 : Option Addr} {sl11 : Array (Option Value)} {oc11 kV11 dc11 pm11 cd11 ct11 : Value}
    {f12 : Addr} {od12 an12 : Option Addr} {sl12 : Array (Option Value)} {oc12 kV12 dc12 pm12 cd12 ct12 : Value}
    {f13 : Addr} {od13 an13 : Option Addr} {sl13 : Array (Option Value)} {oc13 kV13 dc13 pm13 cd13 ct13 : Value}
    {f14 : Addr} {od14 an14 : Option Addr} {sl14 : Array (Option Value)} {oc14 kV14 dc14 pm14 cd14 ct14 : Value}
    {f15 : Addr} {od15 an15 : Option Addr} {sl15 : Array (Option Value)} {oc15 kV15 dc15 pm15 cd15 ct15 : Value}
    {f16 : Addr} {od16 an16 : Option Addr} {sl16 : Array (Option Value)} {oc16 kV16 dc16 pm16 cd16 ct16 : Value}
    {f17 : Addr} {od17 an17 : Option Addr} {sl17 : Array (Option Value)} {oc17 kV17 dc17 pm17 cd17 ct17 : Value}
    {f18 : Addr} {od18 an18 : Option Addr} {sl18 : Array (Option Value)} {oc18 kV18 dc18 pm18 cd18 ct18 : Value}
    {f19 : Addr} {od19 an19 : Option Addr} {sl19 : Array (Option Value)} {oc19 kV19 dc19 pm19 cd19 ct19 : Value}
    (a0 : PySem.W.nsIn K mainGlobals "is_sharing" = some (some (.ref f0))) (l0 : K.lookup f0 = some ⟨oc0, od0, .func (PySem.W.fnOf "is_sharing" "is_sharing" (defArgs s_is_sharing) (defBody s_is_sharing) (defScope s_is_sharing) .none kV0 dc0 pm0 an0 cd0 ct0), sl0⟩) (c0 : PySem.W.codeIn K cd0 "is_sharing" = true) (k0 : PySem.W.keepIn K (.ref f0) = true)
    (a1 : PySem.W.nsIn K mainGlobals "starts" = some (some (.ref f1))) (l1 : K.lookup f1 = some ⟨oc1, od1, .func (PySem.W.fnOf "starts" "starts" (defArgs s_starts) (defBody s_starts) (defScope s_starts) .none kV1 dc1 pm1 an1 cd1 ct1), sl1⟩) (c1 : PySem.W.codeIn K cd1 "starts" = true) (k1 : PySem.W.keepIn K (.ref f1) = true)
    (a2 : PySem.W.nsIn K mainGlobals "is_overlapping" = some (some (.ref f2))) (l2 : K.lookup f2 = some ⟨oc2, od2, .func (PySem.W.fnOf "is_overlapping" "is_overlapping" (defArgs s_is_overlapping) (defBody s_is_overlapping) (defScope s_is_overlapping) .none kV2 dc2 pm2 an2 cd2 ct2), sl2⟩) (c2 : PySem.W.codeIn K cd2 "is_overlapping" = true) (k2 : PySem.W.keepIn K (.ref f2) = true)
    (a3 : PySem.W.nsIn K mainGlobals "conflicts" = some (some (.ref f3))) (l3 : K.lookup f3 = some ⟨oc3, od3, .func (PySem.W.fnOf "conflicts" "conflicts" (defArgs s_conflicts) (defBody s_conflicts) (defScope s_conflicts) .none kV3 dc3 pm3 an3 cd3 ct3), sl3⟩) (c3 : PySem.W.codeIn K cd3 "conflicts" = true) (k3 : PySem.W.keepIn K (.ref f3) = true)
    (a4 : PySem.W.nsIn K mainGlobals "check_plan" = some (some (.ref f4))) (l4 : K.lookup f4 = some ⟨oc4, od4, .func (PySem.W.fnOf "check_plan" "check_plan" (defArgs s_check_plan) (defBody s_check_plan) (defScope s_check_plan) .none kV4 dc4 pm4 an4 cd4 ct4), sl4⟩) (c4 : PySem.W.codeIn K cd4 "check_plan" = true) (k4 : PySem.W.keepIn K (.ref f4) = true)
    (a5 : PySem.W.nsIn K mainGlobals "waiting" = some (some (.ref f5))) (l5 : K.lookup f5 = some ⟨oc5, od5, .func (PySem.W.fnOf "waiting" "waiting" (defArgs s_waiting) (defBody s_waiting) (defScope s_waiting) .none kV5 dc5 pm5 an5 cd5 ct5), sl5⟩) (c5 : PySem.W.codeIn K cd5 "waiting" = true) (k5 : PySem.W.keepIn K (.ref f5) = true)
    (a6 : PySem.W.nsIn K mainGlobals "best_order" = some (some (.ref f6))) (l6 : K.lookup f6 = some ⟨oc6, od6, .func (PySem.W.fnOf "best_order" "best_order" (defArgs s_best_order) (defBody s_best_order) (defScope s_best_order) .none kV6 dc6 pm6 an6 cd6 ct6), sl6⟩) (c6 : PySem.W.codeIn K cd6 "best_order" = true) (k6 : PySem.W.keepIn K (.ref f6) = true)
    (a7 : PySem.W.nsIn K mainGlobals "_law_pool" = some (some (.ref f7))) (l7 : K.lookup f7 = some ⟨oc7, od7, .func (PySem.W.fnOf "_law_pool" "_law_pool" (defArgs s__law_pool) (defBody s__law_pool) (defScope s__law_pool) .none kV7 dc7 pm7 an7 cd7 ct7), sl7⟩) (c7 : PySem.W.codeIn K cd7 "_law_pool" = true) (k7 : PySem.W.keepIn K (.ref f7) = true)
    (a8 : PySem.W.nsIn K mainGlobals "_law_take" = some (some (.ref f8))) (l8 : K.lookup f8 = some ⟨oc8, od8, .func (PySem.W.fnOf "_law_take" "_law_take" (defArgs s__law_take) (defBody s__law_take) (defScope s__law_take) .none kV8 dc8 pm8 an8 cd8 ct8), sl8⟩) (c8 : PySem.W.codeIn K cd8 "_law_take" = true) (k8 : PySem.W.keepIn K (.ref f8) = true)
    (a9 : PySem.W.nsIn K mainGlobals "_law_is_integer" = some (some (.ref f9))) (l9 : K.lookup f9 = some ⟨oc9, od9, .func (PySem.W.fnOf "_law_is_integer" "_law_is_integer" (defArgs s__law_is_integer) (defBody s__law_is_integer) (defScope s__law_is_integer) .none kV9 dc9 pm9 an9 cd9 ct9), sl9⟩) (c9 : PySem.W.codeIn K cd9 "_law_is_integer" = true) (k9 : PySem.W.keepIn K (.ref f9) = true)
    (a10 : PySem.W.nsIn K mainGlobals "_law_same" = some (some (.ref f10))) (l10 : K.lookup f10 = some ⟨oc10, od10, .func (PySem.W.fnOf "_law_same" "_law_same" (defArgs s__law_same) (defBody s__law_same) (defScope s__law_same) .none kV10 dc10 pm10 an10 cd10 ct10), sl10⟩) (c10 : PySem.W.codeIn K cd10 "_law_same" = true) (k10 : PySem.W.keepIn K (.ref f10) = true)
    (a11 : PySem.W.nsIn K mainGlobals "_law_ships" = some (some (.ref f11))) (l11 : K.lookup f11 = some ⟨oc11, od11, .func (PySem.W.fnOf "_law_ships" "_law_ships" (defArgs s__law_ships) (defBody s__law_ships) (defScope s__law_ships) .none kV11 dc11 pm11 an11 cd11 ct11), sl11⟩) (c11 : PySem.W.codeIn K cd11 "_law_ships" = true) (k11 : PySem.W.keepIn K (.ref f11) = true)
    (a12 : PySem.W.nsIn K mainGlobals "_law_shares" = some (some (.ref f12))) (l12 : K.lookup f12 = some ⟨oc12, od12, .func (PySem.W.fnOf "_law_shares" "_law_shares" (defArgs s__law_shares) (defBody s__law_shares) (defScope s__law_shares) .none kV12 dc12 pm12 an12 cd12 ct12), sl12⟩) (c12 : PySem.W.codeIn K cd12 "_law_shares" = true) (k12 : PySem.W.keepIn K (.ref f12) = true)
    (a13 : PySem.W.nsIn K mainGlobals "_law_starts" = some (some (.ref f13))) (l13 : K.lookup f13 = some ⟨oc13, od13, .func (PySem.W.fnOf "_law_starts" "_law_starts" (defArgs s__law_starts) (defBody s__law_starts) (defScope s__law_starts) .none kV13 dc13 pm13 an13 cd13 ct13), sl13⟩) (c13 : PySem.W.codeIn K cd13 "_law_starts" = true) (k13 : PySem.W.keepIn K (.ref f13) = true)
    (a14 : PySem.W.nsIn K mainGlobals "_law_meets" = some (some (.ref f14))) (l14 : K.lookup f14 = some ⟨oc14, od14, .func (PySem.W.fnOf "_law_meets" "_law_meets" (defArgs s__law_meets) (defBody s__law_meets) (defScope s__law_meets) .none kV14 dc14 pm14 an14 cd14 ct14), sl14⟩) (c14 : PySem.W.codeIn K cd14 "_law_meets" = true) (k14 : PySem.W.keepIn K (.ref f14) = true)
    (a15 : PySem.W.nsIn K mainGlobals "_law_orders" = some (some (.ref f15))) (l15 : K.lookup f15 = some ⟨oc15, od15, .func (PySem.W.fnOf "_law_orders" "_law_orders" (defArgs s__law_orders) (defBody s__law_orders) (defScope s__law_orders) .none kV15 dc15 pm15 an15 cd15 ct15), sl15⟩) (c15 : PySem.W.codeIn K cd15 "_law_orders" = true) (k15 : PySem.W.keepIn K (.ref f15) = true)
    (a16 : PySem.W.nsIn K mainGlobals "_law_waiting" = some (some (.ref f16))) (l16 : K.lookup f16 = some ⟨oc16, od16, .func (PySem.W.fnOf "_law_waiting" "_law_waiting" (defArgs s__law_waiting) (defBody s__law_waiting) (defScope s__law_waiting) .none kV16 dc16 pm16 an16 cd16 ct16), sl16⟩) (c16 : PySem.W.codeIn K cd16 "_law_waiting" = true) (k16 : PySem.W.keepIn K (.ref f16) = true)
    (a17 : PySem.W.nsIn K mainGlobals "_law_is_feasible" = some (some (.ref f17))) (l17 : K.lookup f17 = some ⟨oc17, od17, .func (PySem.W.fnOf "_law_is_feasible" "_law_is_feasible" (defArgs s__law_is_feasible) (defBody s__law_is_feasible) (defScope s__law_is_feasible) .none kV17 dc17 pm17 an17 cd17 ct17), sl17⟩) (c17 : PySem.W.codeIn K cd17 "_law_is_feasible" = true) (k17 : PySem.W.keepIn K (.ref f17) = true)
    (a18 : PySem.W.nsIn K mainGlobals "_law_no_better" = some (some (.ref f18))) (l18 : K.lookup f18 = some ⟨oc18, od18, .func (PySem.W.fnOf "_law_no_better" "_law_no_better" (defArgs s__law_no_better) (defBody s__law_no_better) (defScope s__law_no_better) .none kV18 dc18 pm18 an18 cd18 ct18), sl18⟩) (c18 : PySem.W.codeIn K cd18 "_law_no_better" = true) (k18 : PySem.W.keepIn K (.ref f18) = true)
    (a19 : PySem.W.nsIn K mainGlobals "law" = some (some (.ref f19))) (l19 : K.lookup f19 = some ⟨oc19, od19, .func (PySem.W.fnOf "law" "law" (defArgs s_law) (defBody s_law) (defScope s_law) .none kV19 dc19 pm19 an19 cd19 ct19), sl19⟩) (c19 : PySem.W.codeIn K cd19 "law" = true) (k19 : PySem.W.keepIn K (.ref f19) = true)
    (z0 : PySem.W.nsIn K mainGlobals "enumerate" = some none)
    (z1 : PySem.W.nsIn K mainGlobals "range" = some none)
    (z2 : PySem.W.nsIn K mainGlobals "max" = some none)
    (z3 : PySem.W.nsIn K mainGlobals "tuple" = some none)
    (z4 : PySem.W.nsIn K mainGlobals "len" = some none)
    (z5 : PySem.W.nsIn K mainGlobals "sum" = some none)
    (z6 : PySem.W.nsIn K mainGlobals "int" = some none)
    (z7 : PySem.W.nsIn K mainGlobals "isinstance" = some none)
    (z8 : PySem.W.nsIn K mainGlobals "bool" = some none)
    (z9 : PySem.W.nsIn K mainGlobals "all" = some none)
    (z10 : PySem.W.nsIn K mainGlobals "list" = some none)
    (z11 : PySem.W.nsIn K mainGlobals "str" = some none)
    (z12 : PySem.W.nsIn K mainGlobals "min" = some none) :
    ∃ fd : FuncData, (∀ (s : Shared) (v : Value), BindsTo s fd ⟨[v], []⟩ [("_law_script", v)]) ∧ ∀ base : Heap, K.In base → base.Ns mainGlobals mg → FnOk P w K mg base (L2.CX P w) 10 fa fd ["_law_script"] (SpD mg K ms_law .fz g_law) := by
  have e := hfa.symm.trans (PySem.W.mg_of X G a19)
  cases e
  have F0 := fun_mk (st := s_is_sharing) l0 c0 k0
  have b0 := F0.binds (ps := ["ship", "other"]) fun _ _ _ _ _ _ us hl => match us, hl with | [_, _], _ => rfl
  have F1 := fun_mk (st := s_starts) l1 c1 k1
  have b1 := F1.binds (ps := ["ships"]) fun _ _ _ _ _ _ us hl => match us, hl with | [_], _ => rfl
  have F2 := fun_mk (st := s_is_overlapping) l2 c2 k2
  have b2 := F2.binds (ps := ["ships", "plan", "one", "other"]) fun _ _ _ _ _ _ us hl => match us, hl with | [_, _, _, _], _ => rfl
  have F3 := fun_mk (st := s_conflicts) l3 c3 k3
  have b3 := F3.binds (ps := ["ships", "plan"]) fun _ _ _ _ _ _ us hl => match us, hl with | [_, _], _ => rfl
  have F4 := fun_mk (st := s_check_plan) l4 c4 k4
  have b4 := F4.binds (ps := ["ships", "plan"]) fun _ _ _ _ _ _ us hl => match us, hl with | [_, _], _ => rfl
  have F5 := fun_mk (st := s_waiting) l5 c5 k5
  have b5 := F5.binds (ps := ["ships", "plan"]) fun _ _ _ _ _ _ us hl => match us, hl with | [_, _], _ => rfl
  have F6 := fun_mk (st := s_best_order) l6 c6 k6
  have b6 := F6.binds (ps := ["ships"]) fun _ _ _ _ _ _ us hl => match us, hl with | [_], _ => rfl
  have F7 := fun_mk (st := s__law_pool) l7 c7 k7
  have b7 := F7.binds (ps := ["_law_script"]) fun _ _ _ _ _ _ us hl => match us, hl with | [_], _ => rfl
  have F8 := fun_mk (st := s__law_take) l8 c8 k8
  have b8 := F8.binds (ps := ["_law_pool_here", "_law_many"]) fun _ _ _ _ _ _ us hl => match us, hl with | [_, _], _ => rfl
  have F9 := fun_mk (st := s__law_is_integer) l9 c9 k9
  have b9 := F9.binds (ps := ["_law_actual"]) fun _ _ _ _ _ _ us hl => match us, hl with | [_], _ => rfl
  have F10 := fun_mk (st := s__law_same) l10 c10 k10
  have b10 := F10.binds (ps := ["_law_actual", "_law_due"]) fun _ _ _ _ _ _ us hl => match us, hl with | [_, _], _ => rfl
  have F11 := fun_mk (st := s__law_ships) l11 c11 k11
  have b11 := F11.binds (ps := ["_law_pool_here", "_law_bollards", "_law_many"]) fun _ _ _ _ _ _ us hl => match us, hl with | [_, _, _], _ => rfl
  have F12 := fun_mk (st := s__law_shares) l12 c12 k12
  have b12 := F12.binds (ps := ["_law_one", "_law_other"]) fun _ _ _ _ _ _ us hl => match us, hl with | [_, _], _ => rfl
  have F13 := fun_mk (st := s__law_starts) l13 c13 k13
  have b13 := F13.binds (ps := ["_law_ships_here"]) fun _ _ _ _ _ _ us hl => match us, hl with | [_], _ => rfl
  have F14 := fun_mk (st := s__law_meets) l14 c14 k14
  have b14 := F14.binds (ps := ["_law_ships_here", "_law_plan", "_law_one", "_law_other"]) fun _ _ _ _ _ _ us hl => match us, hl with | [_, _, _, _], _ => rfl
  have F15 := fun_mk (st := s__law_orders) l15 c15 k15
  have b15 := F15.binds (ps := ["_law_many"]) fun _ _ _ _ _ _ us hl => match us, hl with | [_], _ => rfl
  have F16 := fun_mk (st := s__law_waiting) l16 c16 k16
  have b16 := F16.binds (ps := ["_law_ships_here", "_law_order"]) fun _ _ _ _ _ _ us hl => match us, hl with | [_, _], _ => rfl
  have F17 := fun_mk (st := s__law_is_feasible) l17 c17 k17
  have b17 := F17.binds (ps := ["_law_ships_here", "_law_plan"]) fun _ _ _ _ _ _ us hl => match us, hl with | [_, _], _ => rfl
  have F18 := fun_mk (st := s__law_no_better) l18 c18 k18
  have b18 := F18.binds (ps := ["_law_ships_here", "_law_least"]) fun _ _ _ _ _ _ us hl => match us, hl with | [_, _], _ => rfl
  have F19 := fun_mk (st := s_law) l19 c19 k19
  have b19 := F19.binds (ps := ["_law_script"]) fun _ _ _ _ _ _ us hl => match us, hl with | [_], _ => rfl
  have T : Bl mg := ⟨PySem.W.mg_none_of X G z0, PySem.W.mg_none_of X G z1, PySem.W.mg_none_of X G z2, PySem.W.mg_none_of X G z3, PySem.W.mg_none_of X G z4, PySem.W.mg_none_of X G z5, PySem.W.mg_none_of X G z6, PySem.W.mg_none_of X G z7, PySem.W.mg_none_of X G z8, PySem.W.mg_none_of X G z9, PySem.W.mg_none_of X G z10, PySem.W.mg_none_of X G z11, PySem.W.mg_none_of X G z12⟩
  refine ⟨PySem.W.fnOf "law" "law" (defArgs s_law) (defBody s_law) (defScope s_law) .none kV19 dc19 pm19 an19 cd19 ct19, fun s v => .of_eq rfl, fun base _ _ => ?_⟩
  have C_is_sharing := c_is_sharing (P := P) (w := w) (base := base) F0 b0 (PySem.W.mg_of X G a0) T 
  have C_starts := c_starts (P := P) (w := w) (base := base) F1 b1 (PySem.W.mg_of X G a1) T C_is_sharing
  have C_is_overlapping := c_is_overlapping (P := P) (w := w) (base := base) F2 b2 (PySem.W.mg_of X G a2) T C_is_sharing
  have C_conflicts := c_conflicts (P := P) (w := w) (base := base) F3 b3 (PySem.W.mg_of X G a3) T C_is_overlapping
  have C_check_plan := c_check_plan (P := P) (w := w) (base := base) F4 b4 (PySem.W.mg_of X G a4) T C_conflicts
  have C_waiting := c_waiting (P := P) (w := w) (base := base) F5 b5 (PySem.W.mg_of X G a5) T C_check_plan
  have C_best_order := c_best_order (P := P) (w := w) (base := base) F6 b6 (PySem.W.mg_of X G a6) T C_starts
  have C__law_pool := c__law_pool (P := P) (w := w) (base := base) F7 b7 (PySem.W.mg_of X G a7) T 
  have C__law_take := c__law_take (P := P) (w := w) (base := base) F8 b8 (PySem.W.mg_of X G a8) T 
  have C__law_is_integer := c__law_is_integer (P := P) (w := w) (base := base) F9 b9 (PySem.W.mg_of X G a9) T 
  have C__law_same := c__law_same (P := P) (w := w) (base := base) F10 b10 (PySem.W.mg_of X G a10) T C__law_is_integer
  have C__law_ships := c__law_ships (P := P) (w := w) (base := base) F11 b11 (PySem.W.mg_of X G a11) T C__law_take
  have C__law_shares := c__law_shares (P := P) (w := w) (base := base) F12 b12 (PySem.W.mg_of X G a12) T 
  have C__law_starts := c__law_starts (P := P) (w := w) (base := base) F13 b13 (PySem.W.mg_of X G a13) T C__law_shares
  have C__law_meets := c__law_meets (P := P) (w := w) (base := base) F14 b14 (PySem.W.mg_of X G a14) T C__law_shares
  have C__law_orders := c__law_orders (P := P) (w := w) (base := base) F15 b15 (PySem.W.mg_of X G a15) T 
  have C__law_waiting := c__law_waiting (P := P) (w := w) (base := base) F16 b16 (PySem.W.mg_of X G a16) T C__law_starts
  have C__law_is_feasible := c__law_is_feasible (P := P) (w := w) (base := base) F17 b17 (PySem.W.mg_of X G a17) T C__law_meets
  have C__law_no_better := c__law_no_better (P := P) (w := w) (base := base) F18 b18 (PySem.W.mg_of X G a18) T C__law_is_feasible
  exact c_law (P := P) (w := w) (base := base) F19 b19 (PySem.W.mg_of X G a19) T C__law_pool C__law_take C__law_ships C__law_orders C__law_waiting C__law_same C_best_order C_starts C_conflicts C_waiting C__law_no_better
end Lk14
open PySem PySem.W PyProof.Rows
set_option maxHeartbeats 0 in
theorem PySem.Challenge.cw_quaybest_k14_best_orders_holds : PySem.Challenge.rw_quaybest_k14_best_orders.Holds := by
  w_on; o_law; k_head; (case hw => w_witness2)
  k_fill
  refine L2.walk_of (l := PySem.Challenge.rw_quaybest_k14_best_orders) (n := 63) (k := 10) (x := "_law_script") (CX := fun w => L2.CX PySem.Challenge.rw_quaybest_k14_best_orders.prog w) (sp := fun _ => DL.spEnd) rfl (by decide) rfl ⟨rfl, by decide, by decide⟩ (fun w h Y => PySem.W.kIn_of Y) ?F (fun _ _ _ _ hl _ hS => DL.sp_end hl hS (by rfl)) (fun _ _ _ _ _ h => DL.cx_end h)
  case F =>
    intro w mg fa h KX G hmg
    refine' DL.end_wrap (Lk14.all_mk KX G hmg ?a0 ?l0 ?c0 ?k0 ?a1 ?l1 ?c1 ?k1 ?a2 ?l2 ?c2 ?k2 ?a3 ?l3 ?c3 ?k3 ?a4 ?l4 ?c4 ?k4 ?a5 ?l5 ?c5 ?k5 ?a6 ?l6 ?c6 ?k6 ?a7 ?l7 ?c7 ?k7 ?a8 ?l8 ?c8 ?k8 ?a9 ?l9 ?c9 ?k9 ?a10 ?l10 ?c10 ?k10 ?a11 ?l11 ?c11 ?k11 ?a12 ?l12 ?c12 ?k12 ?a13 ?l13 ?c13 ?k13 ?a14 ?l14 ?c14 ?k14 ?a15 ?l15 ?c15 ?k15 ?a16 ?l16 ?c16 ?k16 ?a17 ?l17 ?c17 ?k17 ?a18 ?l18 ?c18 ?k18 ?a19 ?l19 ?c19 ?k19 ?z0 ?z1 ?z2 ?z3 ?z4 ?z5 ?z6 ?z7 ?z8 ?z9 ?z10 ?z11 ?z12) Lk14.plain
    (case a0 => k_is); (case l0 => k_is); (case c0 => k_is); (case k0 => k_is); (case a1 => k_is); (case l1 => k_is); (case c1 => k_is); (case k1 => k_is); (case a2 => k_is); (case l2 => k_is); (case c2 => k_is); (case k2 => k_is); (case a3 => k_is); (case l3 => k_is); (case c3 => k_is); (case k3 => k_is); (case a4 => k_is); (case l4 => k_is); (case c4 => k_is); (case k4 => k_is); (case a5 => k_is); (case l5 => k_is); (case c5 => k_is); (case k5 => k_is); (case a6 => k_is); (case l6 => k_is); (case c6 => k_is); (case k6 => k_is); (case a7 => k_is); (case l7 => k_is); (case c7 => k_is); (case k7 => k_is); (case a8 => k_is); (case l8 => k_is); (case c8 => k_is); (case k8 => k_is); (case a9 => k_is); (case l9 => k_is); (case c9 => k_is); (case k9 => k_is); (case a10 => k_is); (case l10 => k_is); (case c10 => k_is); (case k10 => k_is); (case a11 => k_is); (case l11 => k_is); (case c11 => k_is); (case k11 => k_is); (case a12 => k_is); (case l12 => k_is); (case c12 => k_is); (case k12 => k_is); (case a13 => k_is); (case l13 => k_is); (case c13 => k_is); (case k13 => k_is); (case a14 => k_is); (case l14 => k_is); (case c14 => k_is); (case k14 => k_is); (case a15 => k_is); (case l15 => k_is); (case c15 => k_is); (case k15 => k_is); (case a16 => k_is); (case l16 => k_is); (case c16 => k_is); (case k16 => k_is); (case a17 => k_is); (case l17 => k_is); (case c17 => k_is); (case k17 => k_is); (case a18 => k_is); (case l18 => k_is); (case c18 => k_is); (case k18 => k_is); (case a19 => k_is); (case l19 => k_is); (case c19 => k_is); (case k19 => k_is); (case z0 => k_is); (case z1 => k_is); (case z2 => k_is); (case z3 => k_is); (case z4 => k_is); (case z5 => k_is); (case z6 => k_is); (case z7 => k_is); (case z8 => k_is); (case z9 => k_is); (case z10 => k_is); (case z11 => k_is); (case z12 => k_is)
