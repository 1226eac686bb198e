import PyProof.Rows.All
import Wide.All
import OpenK.AllK
import Wide.FinOn
import HandS.List
import HandS.TupAny
import HandS.ForMost
import HandS.ForExc
import HandS.IsInst
import HandS.Style
import HandS.Deep
import HandS.Defaults
import HandS.Zip
import HandS.Walk
import KE.GoesMore
import KE.GoesEnum
import KE.DataMinMax
import KE.SortData
import KE.DataFind
import KE.DataCmp
import HandS.SetFor
import HandS.Strs
import HandS.SortOrd
import HandS.SortInts
import HandS.Conv
import HandS.RaiseMore
import KE.KDictSum
import HandS.Keys
import HandS.TryOnly
import HandS.HeadHook2
import HandS.ExcOwn
import HandS.Ends
import HandS.HeadEnd
import HandS.Head0
import HandS.Head1
import HandS.Head2
import HandS.HeadHook1
import PySem.Challenge.RW_toneyard_k55_whole_tunes_played
set_option Elab.async false
set_option linter.all false
set_option maxRecDepth 100000
set_option maxHeartbeats 2000000
/-! DL: a layer of plain data over the hand layer. Tuples that are made: the object is known to have no dict. -/
namespace DL
open PySem PySem.Spec PyProof.Rows L2
abbrev St := L2.St
/-- a new tuple -/
def NewT (xs : List V) (H : Hp) (Q : VK) : Prop := ∀ (p : Addr) (o : Obj), H p = none → o.dict = none → Q (.ref p) (upd H p (.frz o (.tup xs)))
section
variable {X : Cx} {es : List Expr} {t : TA} {pos : Pos}
theorem newT_ok {pins : List (Addr × Obj)} {σ : St} {H : Hp} {s : Shared} {xs : List V} {its : List Value} {Q : VK} {t' : Nat} (I : Inv X pins σ H s) (r : Vals xs its) (hz : xs.length ≤ sizeLine) (q : NewT xs H Q) :
    EP X pins σ Q (.ref s.heap.objs.size) { s with heap := s.heap.push { cls := .type "tuple", data := .seq its.toArray }, toks := t' } :=
  ⟨.ref _, upd H s.heap.objs.size (.frz { cls := .type "tuple", data := .seq its.toArray } (.tup xs)), I.laid (t' := t') (fun b u e => Heap.get?_push_of_some _ e) (Nat.le_refl _)
    ⟨Heap.get?_push_size _ rfl, hz, its, r, IsTup.new _ _⟩, rfl, q _ _ (I.hok.fresh (Nat.le_refl _)) rfl⟩
def tTupF (t : TA) : TE := fun σ H Q => t σ H fun vs H1 => vs.length ≤ sizeLine ∧ NewT vs H1 Q
theorem pe_tupF {x1} (h : PA X es t) : PE X (.Tuple es x1 pos) (tTupF t) := by
  refine ⟨fun pins s σ H Q I hq => ?_⟩
  refine wpAny_Tuple_spliced (thn (h.run pos pins s σ H _ I hq) fun us s1 ⟨xs, H1, I1, r, z, q⟩ => ⟨by rw [← r.length]; exact z, ?_⟩)
  exact newT_ok I1 r z q
/-- t[lo:hi] -/
def rSlF (K : PySem.W.Frag) : V → Option Int → Option Int → Hp → VK → Prop := fun x lo hi H Q => ∃ a xs, x = .ref a ∧ SqT K H a xs ∧
  (HT.sIx xs.length 0 lo = 0 ∧ HT.sIx xs.length xs.length hi = xs.length → Q (.ref a) H) ∧ (¬ (HT.sIx xs.length 0 lo = 0 ∧ HT.sIx xs.length xs.length hi = xs.length) → NewT (cutV xs lo hi) H Q)
theorem sl_tupF : SlR X (rSlF X.K) := by
  intro pins s σ H x v vl vu lo hi sl Q I rx hs pl pu h
  obtain ⟨a, xs, rfl, hx, q1, q2⟩ := h
  by_cases hw : HT.sIx xs.length 0 lo = 0 ∧ HT.sIx xs.length xs.length hi = xs.length
  · exact sl_tupA pins s σ H _ v vl vu lo hi sl Q I rx hs pl pu ⟨a, xs, rfl, hx, q1, fun h => absurd hw h⟩
  · cases rx
    obtain ⟨its, r, ht, hz⟩ := I.tuple hx
    have hlen : its.toArray.size = xs.length := by rw [List.size_toArray]; exact r.length.symm
    refine ⟨"tuple", _, PyProof.Rows.slot_tuple_getitem.lookup, ht.typeIs, ?_⟩
    refine HT.getItem_tuple_cut ht hs pl pu (by rw [hlen]; exact hw) ?_ (by rw [hlen]; exact hz)
    rw [hlen]
    exact newT_ok I ((r.drop (HT.sIx xs.length 0 lo)).take (HT.sIx xs.length xs.length hi - HT.sIx xs.length 0 lo)) (Nat.le_trans (cutV_length xs lo hi) hz) (q2 hw)
/-- t + u -/
def rCatF (K : PySem.W.Frag) : R2 := fun x y H Q => ∃ a b xs ys, x = .ref a ∧ y = .ref b ∧ SqT K H a xs ∧ SqT K H b ys ∧ xs.length + ys.length ≤ sizeLine ∧
  (xs = [] → Q (.ref b) H) ∧ (xs ≠ [] → ys = [] → Q (.ref a) H) ∧ (xs ≠ [] → ys ≠ [] → NewT (xs ++ ys) H Q)
theorem op_catF : OpR X (binaryOp .Add) (rCatF X.K) := by
  intro pins s σ H x y v u Q I rx ry h
  obtain ⟨a, b, xs, ys, rfl, rfl, ha, hb, hz, q0, q1, q2⟩ := h
  by_cases hx : xs = []
  · exact op_catA pins s σ H _ _ v u Q I rx ry ⟨a, b, xs, ys, rfl, rfl, ha, hb, hz, q0, q1, fun h => absurd hx h⟩
  · cases rx
    cases ry
    obtain ⟨its, r1, p1, _⟩ := I.tuple ha
    obtain ⟨its2, r2, p2, _⟩ := I.tuple hb
    refine HT.cat_tup p1 p2 (fun z => hx (r1.nil_iff.mp z)) (fun z => ⟨.ref a, H, I, rfl, q1 hx (r2.nil_iff.mp z)⟩) (fun z => ?_) (by rw [← r1.length, ← r2.length]; exact hz)
    exact newT_ok I (r1.append r2) (by rw [List.length_append]; exact hz) (q2 hx (fun w => z (r2.nil_iff.mpr w)))
/-- tuple(x) -/
def rTupF (K : PySem.W.Frag) : List V → Hp → VK → Prop := fun xs H Q => ∃ p ys, xs = [.ref p] ∧ ((SqL K H p ys ∧ NewT ys H Q) ∨ (SqT K H p ys ∧ Q (.ref p) H))
theorem call_tupleF : CallR X (.type "tuple") (rTupF X.K) := by
  intro pins s σ H xs us Q I r h
  obtain ⟨p, ys, rfl, h⟩ := h
  obtain ⟨u, rfl, rx⟩ := vals1 r
  cases rx
  rcases h with ⟨hq, q⟩ | ⟨hq, q⟩
  · obtain ⟨its, r', pl, hz⟩ := I.list hq
    have hlen := r'.length
    refine call_tuple_list pl.isList (fun h' kp => ?_) (by simp only [List.size_toArray] <;> omega)
    exact newT_ok (I.kept (t' := s.toks) kp) r' hz q
  · obtain ⟨its, r', pl, hz⟩ := I.tuple hq
    exact call_tuple_same pl ⟨.ref p, H, I, rfl, q⟩
end
/-- a tuple whose object is known to have no dict -/
def TqT (K : PySem.W.Frag) (G : Hp) (a : Addr) (xs : List V) : Prop := (∃ o, G a = some (.frz o (.tup xs)) ∧ o.dict = none) ∨
  ∃ (o : Obj) (its : Array Value) (n : Nat), K.lookup a = some o ∧ o.cls = .type "tuple" ∧ o.dict = none ∧ o.data = .seq its n ∧ its.size ≤ sizeLine ∧ Vals xs its.toList
theorem Same.seqT {K : PySem.W.Frag} {H H' : Hp} {a : Addr} {xs : List V} (e : Same H H') (h : TqT K H a xs) : SqT K H' a xs := by
  rcases h with ⟨o, h, _⟩ | ⟨o, its, n, h1, h2, _, h⟩
  · exact .inl (.inr ⟨o, e _ _ h⟩)
  · exact .inr ⟨o, its, n, h1, h2, h⟩
theorem TqT.mono {K : PySem.W.Frag} {H H' : Hp} {a : Addr} {xs : List V} (e : Same H H') (h : TqT K H a xs) : TqT K H' a xs := by
  rcases h with ⟨o, h, d⟩ | h
  · exact .inl ⟨o, e _ _ h, d⟩
  · exact .inr h
theorem TqT.new {K : PySem.W.Frag} {G : Hp} {p : Addr} {o : Obj} {xs : List V} (h : o.dict = none) : TqT K (upd G p (.frz o (.tup xs))) p xs := .inl ⟨o, upd_same, h⟩
/-- .. as a method's receiver -/
theorem TqT.is {X : Cx} {pins : List (Addr × Obj)} {σ : St} {H : Hp} {s : Shared} {a : Addr} {xs : List V} (I : Inv X pins σ H s) (h : TqT X.K H a xs) : s.TypeIs (.ref a) "tuple" ∧ ∀ b, Value.ref a = .ref b → ∃ ob, s.heap.get? b = some ob ∧ ob.dict = none := by
  rcases h with ⟨o, h, d⟩ | ⟨o, its, n, h1, h2, d, h⟩
  · obtain ⟨e, _, its, _, pt⟩ := I.hok a _ h
    refine ⟨?_, fun b q => by cases q; exact ⟨o, e, d⟩⟩
    obtain ⟨o', e', c, _⟩ := pt
    rw [e] at e'
    cases e'
    exact ⟨o, e, c⟩
  · exact ⟨⟨o, I.kIn a o h1, h2⟩, fun b q => by cases q; exact ⟨o, I.kIn a o h1, d⟩⟩
end DL
/-! DL: a layer of plain data over the hand layer. -/
namespace DL
open PySem PySem.Spec PyProof.Rows L2

/-- plain data -/
inductive D where
  | non | bl (b : Bool) | int (i : Int) | str (x : Str)
  | tup (xs : List D) | lst (xs : List D)
  | dk (ks : List Key) (vs : List D) | dt (ks : List (List Key)) (vs : List D)
  | set (ns : List Int)
  | ref (a : Addr)

/- a value stands for data; all that it reaches lies in G (or is written) -/
mutual
inductive Rp (K : PySem.W.Frag) (G : Hp) : D → V → Prop
  | non : Rp K G .non .non
  | bl (b : Bool) : Rp K G (.bl b) (.bl b)
  | int (i : Int) : Rp K G (.int i) (.int i)
  | str (x : Str) : Rp K G (.str x) (.str x)
  | ref (a : Addr) : Rp K G (.ref a) (.ref a)
  | tup {a : Addr} {vs : List V} {ds : List D} : TqT K G a vs → vs.length ≤ sizeLine → Rps K G ds vs → Rp K G (.tup ds) (.ref a)
  | lst {a : Addr} {vs : List V} {ds : List D} : G a = some (.lst vs) → vs.length ≤ sizeLine → Rps K G ds vs → Rp K G (.lst ds) (.ref a)
  | dk {a : Addr} {ks : List Key} {vs : List V} {ds : List D} : G a = some (.dK (ks.zip vs)) → ks.length = vs.length → Rps K G ds vs → Rp K G (.dk ks ds) (.ref a)
  | dt {a : Addr} {ks : List (List Key)} {vs : List V} {ds : List D} : G a = some (.dT (ks.zip vs)) → ks.length = vs.length → Rps K G ds vs → Rp K G (.dt ks ds) (.ref a)
  | set {a : Addr} {ns : List Int} : G a = some (.set (fun i => decide (i ∈ ns)) ns.length) → ns.Nodup → Rp K G (.set ns) (.ref a)
inductive Rps (K : PySem.W.Frag) (G : Hp) : List D → List V → Prop
  | nil : Rps K G [] []
  | cons {d : D} {ds : List D} {v : V} {vs : List V} : Rp K G d v → Rps K G ds vs → Rps K G (d :: ds) (v :: vs)
end

section
variable {K : PySem.W.Frag} {G G' : Hp}
mutual
theorem Rp.mono (s : Same G G') : ∀ {d : D} {v : V}, Rp K G d v → Rp K G' d v
  | _, _, .non => .non
  | _, _, .bl b => .bl b
  | _, _, .int i => .int i
  | _, _, .str x => .str x
  | _, _, .ref a => .ref a
  | _, _, .tup h z r => .tup (h.mono s) z (Rps.mono s r)
  | _, _, .lst h z r => .lst (s _ _ h) z (Rps.mono s r)
  | _, _, .dk h l r => .dk (s _ _ h) l (Rps.mono s r)
  | _, _, .dt h l r => .dt (s _ _ h) l (Rps.mono s r)
  | _, _, .set h n => .set (s _ _ h) n
theorem Rps.mono (s : Same G G') : ∀ {ds : List D} {vs : List V}, Rps K G ds vs → Rps K G' ds vs
  | _, _, .nil => .nil
  | _, _, .cons h r => .cons (Rp.mono s h) (Rps.mono s r)
end
theorem Rps.length : ∀ {ds : List D} {vs : List V}, Rps K G ds vs → ds.length = vs.length
  | _, _, .nil => rfl
  | _, _, .cons _ r => by rw [List.length_cons, List.length_cons, Rps.length r]
theorem Rps.get : ∀ {ds : List D} {vs : List V} {i : Nat} {v : V}, Rps K G ds vs → vs[i]? = some v → ∃ d, ds[i]? = some d ∧ Rp K G d v
  | _, _, _, _, .nil, h => by simp at h
  | _, _, 0, _, .cons h _, e => by simp at e; subst e; exact ⟨_, rfl, h⟩
  | _, _, i + 1, _, .cons _ r, e => by
    obtain ⟨d, h1, h2⟩ := Rps.get (i := i) r (by simpa using e)
    exact ⟨d, by simpa using h1, h2⟩
theorem Rps.get' : ∀ {ds : List D} {vs : List V} {i : Nat} {d : D}, Rps K G ds vs → ds[i]? = some d → ∃ v, vs[i]? = some v ∧ Rp K G d v
  | _, _, _, _, .nil, h => by simp at h
  | _, _, 0, _, .cons h _, e => by simp at e; subst e; exact ⟨_, rfl, h⟩
  | _, _, i + 1, _, .cons _ r, e => by
    obtain ⟨d, h1, h2⟩ := Rps.get' (i := i) r (by simpa using e)
    exact ⟨d, by simpa using h1, h2⟩
theorem Rps.append : ∀ {ds es : List D} {vs ws : List V}, Rps K G ds vs → Rps K G es ws → Rps K G (ds ++ es) (vs ++ ws)
  | _, _, _, _, .nil, s => s
  | _, _, _, _, .cons h r, s => .cons h (Rps.append r s)
theorem Rps.take : ∀ {ds : List D} {vs : List V} (n : Nat), Rps K G ds vs → Rps K G (ds.take n) (vs.take n)
  | _, _, 0, _ => .nil
  | _, _, _ + 1, .nil => .nil
  | _, _, n + 1, .cons h r => .cons h (Rps.take n r)
theorem Rps.drop : ∀ {ds : List D} {vs : List V} (n : Nat), Rps K G ds vs → Rps K G (ds.drop n) (vs.drop n)
  | _, _, 0, r => r
  | _, _, _ + 1, .nil => .nil
  | _, _, n + 1, .cons _ r => Rps.drop n r
theorem Rps.set {d : D} {v : V} (h : Rp K G d v) : ∀ {ds : List D} {vs : List V} (i : Nat), Rps K G ds vs → Rps K G (ds.set i d) (vs.set i v)
  | _, _, _, .nil => .nil
  | _, _, 0, .cons _ r => .cons h r
  | _, _, i + 1, .cons q r => .cons q (Rps.set h i r)
theorem Rps.reverse {ds : List D} {vs : List V} (h : Rps K G ds vs) : Rps K G ds.reverse vs.reverse := by
  induction h using Rps.rec (motive_1 := fun _ _ _ => True) with
  | nil => exact .nil
  | cons h r _ ih => rw [List.reverse_cons, List.reverse_cons]; exact ih.append (.cons h .nil)
  | _ => trivial
theorem Rps.replicate {ds : List D} {vs : List V} (h : Rps K G ds vs) : ∀ k : Nat, Rps K G (List.replicate k ds).flatten (List.replicate k vs).flatten
  | 0 => .nil
  | k + 1 => by
    rw [List.replicate_succ, List.replicate_succ, List.flatten_cons, List.flatten_cons]
    exact h.append (Rps.replicate h k)
theorem Rps.ints : ∀ {ns : List Int} {vs : List V}, Rps K G (ns.map D.int) vs → vs = ns.map V.int
  | [], _, .nil => rfl
  | n :: ns, _, .cons h r => by
    cases h
    rw [Rps.ints r]
    rfl
theorem Rps.of_ints : ∀ ns : List Int, Rps K G (ns.map D.int) (ns.map V.int)
  | [] => .nil
  | n :: ns => .cons (.int n) (Rps.of_ints ns)
theorem Rps.bls : ∀ {bs : List Bool} {vs : List V}, Rps K G (bs.map D.bl) vs → vs = bs.map V.bl
  | [], _, .nil => rfl
  | n :: ns, _, .cons h r => by
    cases h
    rw [Rps.bls r]
    rfl
theorem Rps.strs : ∀ {bs : List Str} {vs : List V}, Rps K G (bs.map D.str) vs → vs = bs.map V.str
  | [], _, .nil => rfl
  | n :: ns, _, .cons h r => by
    cases h
    rw [Rps.strs r]
    rfl
theorem Rps.of_strs : ∀ ns : List Str, Rps K G (ns.map D.str) (ns.map V.str)
  | [] => .nil
  | n :: ns => .cons (.str n) (Rps.of_strs ns)
end

/-! ### slots -/
inductive S where
  | un | im (d : D) | ol (ds : List D) | ok (ks : List Key) (ds : List D) | ot (ks : List (List Key)) (ds : List D) | cup
def S.own : S → Bool
  | .un => false
  | .im _ => false
  | _ => true
/-- a def's entry: the heap, the frozen part, the cup -/
structure Fx where
  H0 : Hp
  G0 : Hp
  cup : Option Addr
def CupOk (x y : Int) : Prop := 0 ≤ x ∧ 0 ≤ y ∧ y < 4294967296
def CupAt (H : Hp) (a : Addr) : Prop := ∃ x y, H a = some (.lst [.int x, .int y]) ∧ CupOk x y
def SlotOk (K : PySem.W.Frag) (F : Fx) (H G : Hp) : S → Option (Option V) → Prop
  | .un, _ => True
  | .im d, o => ∃ v, o = some (some v) ∧ Rp K G d v
  | .ol ds, o => ∃ a vs, o = some (some (.ref a)) ∧ G a = none ∧ F.H0 a = none ∧ H a = some (.lst vs) ∧ vs.length ≤ sizeLine ∧ Rps K G ds vs
  | .ok ks ds, o => ∃ a vs, o = some (some (.ref a)) ∧ G a = none ∧ F.H0 a = none ∧ H a = some (.dK (ks.zip vs)) ∧ ks.length = vs.length ∧ Rps K G ds vs
  | .ot ks ds, o => ∃ a vs, o = some (some (.ref a)) ∧ G a = none ∧ F.H0 a = none ∧ H a = some (.dT (ks.zip vs)) ∧ ks.length = vs.length ∧ Rps K G ds vs
  | .cup, o => ∃ a, o = some (some (.ref a)) ∧ G a = none ∧ (F.H0 a = none ∨ F.cup = some a) ∧ CupAt H a
structure EnvOk (K : PySem.W.Frag) (F : Fx) (ρ : List S) (σ : St) (H G : Hp) : Prop where
  len : ρ.length = σ.length
  sub : Same G H
  g0 : Same F.G0 G
  gf : ∀ b, F.H0 b ≠ none → F.G0 b = none → G b = none
  keep : ∀ b o, F.H0 b = some o → F.cup ≠ some b → H b = some o
  cupk : ∀ a, F.cup = some a → CupAt H a
  cup0 : ∀ a, F.cup = some a → F.H0 a ≠ none
  slot : ∀ (i : Nat) (s : S), ρ[i]? = some s → SlotOk K F H G s σ[i]?
  dis : ∀ (i j : Nat) (a : Addr) (s t : S), i ≠ j → ρ[i]? = some s → ρ[j]? = some t → s.own = true → t.own = true → σ[i]? = some (some (.ref a)) → σ[j]? ≠ some (some (.ref a))

section
variable {K : PySem.W.Frag} {F : Fx} {ρ : List S} {σ : St} {H H' G G' : Hp} {p a : Addr} {o : HO} {i : Nat} {d : D} {v : V}
theorem SlotOk.ownAt {s : S} {x : Option (Option V)} (h : SlotOk K F H G s x) (w : s.own = true) : ∃ a u, x = some (some (.ref a)) ∧ G a = none ∧ H a = some u ∧ (F.H0 a = none ∨ F.cup = some a) := by
  cases s with
  | un => cases w
  | im _ => cases w
  | ol ds => obtain ⟨a, vs, h1, h2, h3, h4, _⟩ := h; exact ⟨a, _, h1, h2, h4, .inl h3⟩
  | ok ks ds => obtain ⟨a, vs, h1, h2, h3, h4, _⟩ := h; exact ⟨a, _, h1, h2, h4, .inl h3⟩
  | ot ks ds => obtain ⟨a, vs, h1, h2, h3, h4, _⟩ := h; exact ⟨a, _, h1, h2, h4, .inl h3⟩
  | cup => obtain ⟨a, h1, h2, h3, x, y, h4, _⟩ := h; exact ⟨a, _, h1, h2, h4, h3⟩
/-- a slot where own objects and the frozen part are kept -/
theorem SlotOk.move {s : S} {x : Option (Option V)} (h : SlotOk K F H G s x) (g : Same G G') (k : ∀ a u, s.own = true → x = some (some (.ref a)) → G a = none → H a = some u → G' a = none ∧ (s ≠ .cup → H' a = some u) ∧ (s = .cup → CupAt H' a)) : SlotOk K F H' G' s x := by
  cases s with
  | un => trivial
  | im d => obtain ⟨v, e, r⟩ := h; exact ⟨v, e, r.mono g⟩
  | ol ds =>
    obtain ⟨a, vs, h1, h2, h3, h4, hz, h5⟩ := h
    obtain ⟨k1, k2, _⟩ := k a _ rfl h1 h2 h4
    exact ⟨a, vs, h1, k1, h3, k2 (by simp), hz, h5.mono g⟩
  | ok ks ds =>
    obtain ⟨a, vs, h1, h2, h3, h4, h5, h6⟩ := h
    obtain ⟨k1, k2, _⟩ := k a _ rfl h1 h2 h4
    exact ⟨a, vs, h1, k1, h3, k2 (by simp), h5, h6.mono g⟩
  | ot ks ds =>
    obtain ⟨a, vs, h1, h2, h3, h4, h5, h6⟩ := h
    obtain ⟨k1, k2, _⟩ := k a _ rfl h1 h2 h4
    exact ⟨a, vs, h1, k1, h3, k2 (by simp), h5, h6.mono g⟩
  | cup =>
    obtain ⟨a, h1, h2, h3, x, y, h4, h5⟩ := h
    obtain ⟨k1, _, k3⟩ := k a _ rfl h1 h2 h4
    exact ⟨a, h1, k1, h3, k3 rfl⟩
theorem CupAt.move (h : CupAt H a) (k : H' a = H a) : CupAt H' a := by
  obtain ⟨x, y, e, c⟩ := h
  exact ⟨x, y, k.trans e, c⟩
/-- a new object, not frozen -/
theorem EnvOk.new (E : EnvOk K F ρ σ H G) (hp : H p = none) : EnvOk K F ρ σ (upd H p o) G where
  len := E.len
  sub := fun b u e => by rw [upd_ne (ne_of_none (E.sub b u e) hp)]; exact E.sub b u e
  g0 := E.g0
  gf := E.gf
  keep := fun b u e n => by rw [upd_ne (ne_of_none (E.keep b u e n) hp)]; exact E.keep b u e n
  cupk := fun a e => by
    obtain ⟨x, y, h, c⟩ := E.cupk a e
    exact ⟨x, y, by rw [upd_ne (ne_of_none h hp)]; exact h, c⟩
  cup0 := E.cup0
  slot := fun i s e => (E.slot i s e).move (Same.refl G) fun a u _ x g h => ⟨g, fun _ => by rw [upd_ne (ne_of_none h hp)]; exact h, fun ec => by
    subst ec
    obtain ⟨a', h1, _, _, c⟩ := E.slot i _ e
    rw [x] at h1
    cases h1
    exact c.move (upd_ne (ne_of_none h hp))⟩
  dis := E.dis
theorem EnvOk.gnone (E : EnvOk K F ρ σ H G) (hp : H p = none) : G p = none := by
  cases e : G p with
  | none => rfl
  | some u => rw [E.sub p u e] at hp; cases hp
theorem same_new (hp : H p = none) : Same H (upd H p o) := fun b u e => by rw [upd_ne (ne_of_none e hp)]; exact e
theorem upd_none {b : Addr} (h : b ≠ p) (e : H b = none) : upd H p o b = none := by rw [upd_ne h]; exact e
/-- the object at p, the def's own and no slot's, is frozen -/
theorem EnvOk.freeze (E : EnvOk K F ρ σ H G) (h : H p = some o) (hg : G p = none) (h0 : F.H0 p = none) (hs : ∀ (i : Nat) (s : S), ρ[i]? = some s → s.own = true → σ[i]? ≠ some (some (.ref p))) : EnvOk K F ρ σ H (upd G p o) where
  len := E.len
  sub := fun b u e => by
    by_cases hb : b = p
    · subst hb; rw [upd_same] at e; cases e; exact h
    · rw [upd_ne hb] at e; exact E.sub b u e
  g0 := fun b u e => by rw [upd_ne (ne_of_none (E.g0 b u e) hg)]; exact E.g0 b u e
  gf := fun b e n => by
    by_cases hb : b = p
    · subst hb; exact absurd h0 e
    · exact upd_none hb (E.gf b e n)
  keep := E.keep
  cupk := E.cupk
  cup0 := E.cup0
  slot := fun i s e => (E.slot i s e).move (same_new hg) fun a u w x g q => ⟨upd_none (fun z => by subst z; exact hs i s e w x) g, fun _ => q, fun ec => by
    subst ec
    obtain ⟨a', h1, _, _, c⟩ := E.slot i _ e
    rw [x] at h1
    cases h1
    exact c⟩
  dis := E.dis
/-- a new frozen object -/
theorem EnvOk.frz (E : EnvOk K F ρ σ H G) (hp : H p = none) : EnvOk K F ρ σ (upd H p o) (upd G p o) := by
  have h0 : F.H0 p = none := by
    cases e : F.H0 p with
    | none => rfl
    | some u =>
      by_cases c : F.cup = some p
      · obtain ⟨x, y, h, _⟩ := E.cupk p c
        rw [h] at hp; cases hp
      · rw [E.keep p u e c] at hp; cases hp
  refine (E.new hp).freeze upd_same (E.gnone hp) h0 fun i s e w x => ?_
  obtain ⟨a, u, h1, _, h2, _⟩ := (E.slot i s e).ownAt w
  rw [h1] at x
  cases x
  rw [h2] at hp; cases hp
theorem EnvOk.h0none (E : EnvOk K F ρ σ H G) (hp : H p = none) : F.H0 p = none := by
  cases e : F.H0 p with
  | none => rfl
  | some u =>
    by_cases c : F.cup = some p
    · obtain ⟨x, y, h, _⟩ := E.cupk p c
      rw [h] at hp; cases hp
    · rw [E.keep p u e c] at hp; cases hp
/-- a slot is set -/
theorem get_set {α : Type} {l : List α} {i j : Nat} {x y : α} (h : (l.set i x)[j]? = some y) : (j = i ∧ y = x ∧ i < l.length) ∨ (j ≠ i ∧ l[j]? = some y) := by
  by_cases e : j = i
  · subst e
    by_cases hl : j < l.length
    · rw [List.getElem?_set_self hl] at h
      cases h
      exact .inl ⟨rfl, rfl, hl⟩
    · rw [List.getElem?_eq_none (by rw [List.length_set]; omega)] at h
      cases h
  · rw [List.getElem?_set_ne (Ne.symm e)] at h
    exact .inr ⟨e, h⟩
theorem EnvOk.setS (E : EnvOk K F ρ σ H G) {s : S} {x : Option V} (hs : SlotOk K F H G s (some x)) (hd : ∀ a, s.own = true → x = some (.ref a) → ∀ (j : Nat) (t : S), j ≠ i → ρ[j]? = some t → t.own = true → σ[j]? ≠ some (some (.ref a))) : EnvOk K F (ρ.set i s) (σ.set i x) H G where
  len := by rw [List.length_set, List.length_set]; exact E.len
  sub := E.sub
  g0 := E.g0
  gf := E.gf
  keep := E.keep
  cupk := E.cupk
  cup0 := E.cup0
  slot := fun j t e => by
    rcases get_set e with ⟨rfl, rfl, hl⟩ | ⟨ne, e⟩
    · rw [List.getElem?_set_self (by rw [← E.len]; exact hl)]; exact hs
    · rw [List.getElem?_set_ne (Ne.symm ne)]; exact E.slot j t e
  dis := fun j k a t u ne e1 e2 w1 w2 x1 x2 => by
    rcases get_set e1 with ⟨rfl, rfl, hl⟩ | ⟨n1, f1⟩
    · rcases get_set e2 with ⟨rfl, _, _⟩ | ⟨n2, f2⟩
      · exact ne rfl
      · rw [List.getElem?_set_self (by rw [← E.len]; exact hl)] at x1
        rw [List.getElem?_set_ne (Ne.symm n2)] at x2
        exact hd a w1 (Option.some.inj x1) k u n2 f2 w2 x2
    · rcases get_set e2 with ⟨rfl, rfl, hl⟩ | ⟨n2, f2⟩
      · rw [List.getElem?_set_self (by rw [← E.len]; exact hl)] at x2
        rw [List.getElem?_set_ne (Ne.symm n1)] at x1
        exact hd a w2 (Option.some.inj x2) j t n1 f1 w1 x1
      · rw [List.getElem?_set_ne (Ne.symm n1)] at x1
        rw [List.getElem?_set_ne (Ne.symm n2)] at x2
        exact E.dis j k a t u ne f1 f2 w1 w2 x1 x2
theorem EnvOk.setIm (E : EnvOk K F ρ σ H G) (r : Rp K G d v) : EnvOk K F (ρ.set i (.im d)) (σ.set i (some v)) H G :=
  E.setS ⟨v, rfl, r⟩ fun _ w => by cases w
theorem EnvOk.setUn (E : EnvOk K F ρ σ H G) {x : Option V} : EnvOk K F (ρ.set i .un) (σ.set i x) H G :=
  E.setS trivial fun _ w => by cases w
theorem EnvOk.nil (E : EnvOk K F ρ σ H G) : EnvOk K F [] [] H G :=
  ⟨rfl, E.sub, E.g0, E.gf, E.keep, E.cupk, E.cup0, fun i s e => by simp at e, fun i j a s t _ e => by simp at e⟩
/-- the own object of slot i is changed -/
theorem EnvOk.write (E : EnvOk K F ρ σ H G) {s s' : S} (hi : ρ[i]? = some s) (w : s.own = true) (nc : s ≠ .cup) (hx : σ[i]? = some (some (.ref a))) (hs : SlotOk K F (upd H a o) G s' (some (some (.ref a)))) : EnvOk K F (ρ.set i s') σ (upd H a o) G := by
  obtain ⟨a', u, x', ga, ha, h0⟩ := (E.slot i s hi).ownAt w
  rw [hx] at x'
  cases x'
  have h0' : F.H0 a = none := by
    have q := E.slot i s hi
    cases s with
    | un => cases w
    | im _ => cases w
    | ol ds => obtain ⟨b, vs, h1, h2, h3, _⟩ := q; rw [hx] at h1; cases h1; exact h3
    | ok ks ds => obtain ⟨b, vs, h1, h2, h3, _⟩ := q; rw [hx] at h1; cases h1; exact h3
    | ot ks ds => obtain ⟨b, vs, h1, h2, h3, _⟩ := q; rw [hx] at h1; cases h1; exact h3
    | cup => exact absurd rfl nc
  have ow : ∀ j t, j ≠ i → ρ[j]? = some t → t.own = true → σ[j]? ≠ some (some (.ref a)) := fun j t ne e w' => E.dis i j a s t (Ne.symm ne) hi e w w' hx
  refine ⟨by rw [List.length_set]; exact E.len, fun b u' e => ?_, E.g0, E.gf, fun b u' e n => ?_, fun c e => ?_, E.cup0, fun j t e => ?_, fun j k b t u' ne e1 e2 w1 w2 x1 => ?_⟩
  · rw [upd_ne (ne_of_none e ga)]; exact E.sub b u' e
  · rw [upd_ne (ne_of_none e h0')]; exact E.keep b u' e n
  · obtain ⟨x, y, h, c'⟩ := E.cupk c e
    have hc : c ≠ a := fun z => by subst z; exact E.cup0 _ e h0'
    exact ⟨x, y, by rw [upd_ne hc]; exact h, c'⟩
  · rcases get_set e with ⟨rfl, rfl, hl⟩ | ⟨ne, e⟩
    · rw [hx]; exact hs
    · refine (E.slot j t e).move (Same.refl G) fun b u' w' x g q => ?_
      have hb : b ≠ a := fun z => by subst z; exact ow j t ne e w' x
      refine ⟨g, fun _ => by rw [upd_ne hb]; exact q, fun ec => ?_⟩
      subst ec
      obtain ⟨a', h1, _, _, c⟩ := E.slot j _ e
      rw [x] at h1
      cases h1
      exact c.move (upd_ne hb)
  · rcases get_set e1 with ⟨rfl, rfl, _⟩ | ⟨n1, f1⟩
    · rcases get_set e2 with ⟨rfl, _, _⟩ | ⟨n2, f2⟩
      · exact absurd rfl ne
      · rw [hx] at x1; cases x1
        exact ow k u' n2 f2 w2
    · rcases get_set e2 with ⟨rfl, rfl, _⟩ | ⟨n2, f2⟩
      · exact fun x2 => by
          rw [hx] at x2; cases x2
          exact ow j t n1 f1 w1 x1
      · exact E.dis j k b t u' ne f1 f2 w1 w2 x1
/-- behind a call -/
theorem EnvOk.after (E : EnvOk K F ρ σ H G) {c : Option Addr} (hc : ∀ a, c = some a → ∃ i : Nat, ρ[i]? = some S.cup ∧ σ[i]? = some (some (V.ref a))) (E' : EnvOk K ⟨H, G, c⟩ [] [] H' G') : EnvOk K F ρ σ H' G' := by
  have kc : ∀ a, F.cup = some a → CupAt H' a := fun a e => by
    obtain ⟨x, y, h, c'⟩ := E.cupk a e
    by_cases z : c = some a
    · exact E'.cupk a z
    · exact ⟨x, y, E'.keep a _ h z, c'⟩
  refine ⟨E.len, E'.sub, fun b u e => E'.g0 b u (E.g0 b u e), fun b e n => ?_, fun b u e n => ?_, kc, E.cup0, fun i s e => ?_, E.dis⟩
  · have h1 := E.gf b e n
    by_cases z : F.cup = some b
    · obtain ⟨x, y, h, _⟩ := E.cupk b z
      exact E'.gf b (by show H b ≠ none; rw [h]; simp) h1
    · cases q : F.H0 b with
      | none => exact absurd q e
      | some u => exact E'.gf b (by show H b ≠ none; rw [E.keep b u q z]; simp) h1
  · have h1 := E.keep b u e n
    by_cases z : c = some b
    · obtain ⟨i, e1, e2⟩ := hc b z
      obtain ⟨a, q1, q2, q3, q4⟩ := E.slot i _ e1
      rw [e2] at q1; cases q1
      rcases q3 with q3 | q3
      · rw [e] at q3; cases q3
      · exact absurd q3 n
    · exact E'.keep b u h1 z
  · refine (E.slot i s e).move E'.g0 fun a u w x g h => ⟨E'.gf a (by show H a ≠ none; rw [h]; simp) g, fun nc => ?_, fun ec => ?_⟩
    · refine E'.keep a u h fun z => ?_
      obtain ⟨j, e1, e2⟩ := hc a z
      have ij : i ≠ j := fun q => by subst q; rw [e] at e1; exact nc (Option.some.inj e1)
      exact E.dis i j a s .cup ij e e1 w rfl x e2
    · subst ec
      obtain ⟨a', h1, _, _, cc⟩ := E.slot i _ e
      rw [x] at h1; cases h1
      by_cases z : c = some a
      · exact E'.cupk a z
      · obtain ⟨x', y', q, c'⟩ := cc
        exact ⟨x', y', E'.keep a _ q z, c'⟩
end
end DL
namespace DL
open PySem PySem.Spec PyProof.Rows L2

/-! ### lifts -/
abbrev DW (α : Type) := List S → (α → Prop) → (Str → Prop) → Prop
def KeepO (ρ : List S) (σ : St) (H H' : Hp) : Prop := ∀ (b : Addr) (o : HO), H b = some o → (∀ i : Nat, ρ[i]? = some S.cup → σ[i]? ≠ some (some (V.ref b))) → H' b = some o
/-- what was tracked stands (but the cup), is tracked, and is frozen only if it was -/
structure Keep (ρ : List S) (σ : St) (H H' G G' : Hp) : Prop where
  obj : KeepO ρ σ H H'
  trk : ∀ b : Addr, H b ≠ none → H' b ≠ none
  fre : ∀ b : Addr, H b ≠ none → G b = none → G' b = none
theorem Keep.rfl {ρ : List S} {σ : St} {H G : Hp} : Keep ρ σ H H G G := ⟨fun _ _ e _ => e, fun _ h => h, fun _ _ h => h⟩
theorem KeepO.refl (ρ : List S) (σ : St) (H : Hp) : KeepO ρ σ H H := fun _ _ e _ => e
theorem trk_of {H H' : Hp} (s : Same H H') : ∀ b : Addr, H b ≠ none → H' b ≠ none := fun b h => by
  cases e : H b with
  | none => exact absurd e h
  | some o => rw [s b o e]; simp
theorem Keep.new {ρ : List S} {σ : St} {H G : Hp} {p : Addr} {o : HO} (np : H p = none) : Keep ρ σ H (upd H p o) G G := ⟨fun b u e _ => same_new np b u e, trk_of (same_new np), fun _ _ h => h⟩
theorem Keep.frz {ρ : List S} {σ : St} {H G : Hp} {p : Addr} {o o' : HO} (np : H p = none) : Keep ρ σ H (upd H p o) G (upd G p o') := ⟨fun b u e _ => same_new np b u e, trk_of (same_new np), fun b h g => by
  have hb : b ≠ p := fun z => by subst z; exact h np
  rw [upd_ne hb]
  exact g⟩
theorem Keep.trans {ρ : List S} {σ : St} {H H1 H2 G G1 G2 : Hp} (a : Keep ρ σ H H1 G G1) (b : Keep ρ σ H1 H2 G1 G2) : Keep ρ σ H H2 G G2 :=
  ⟨fun c o e n => b.obj c o (a.obj c o e n) n, fun c h => b.trk c (a.trk c h), fun c h g => b.fre c (a.trk c h) (a.fre c h g)⟩
/-- what an exception of the code is to reach -/
abbrev EX := St → XK
def lX (X : Cx) (F : Fx) (E : EX) (G : Hp) (ρ : List S) (σ : St) (Z : Str → Prop) : Prop :=
  ∀ (c : Str) (a : Addr), Z c → X.mg c = some (.ref a) → ∀ H' G', EnvOk X.K F ρ σ H' G' → Same G G' → E σ (.ref a) none H'
theorem lX.mono {X : Cx} {F : Fx} {E : EX} {G G1 : Hp} {ρ : List S} {σ : St} {Z : Str → Prop} (z : lX X F E G ρ σ Z) (s : Same G G1) : lX X F E G1 ρ σ Z := fun c a h m H' G' e s' => z c a h m H' G' e (s.trans s')
def lG {α : Type} (X : Cx) (F : Fx) (E : EX) (Rel : α → V → List S → St → Hp → Hp → Hp → Prop) (t : DW α) : TE := fun σ H Q =>
  ∃ ρ G R Z, EnvOk X.K F ρ σ H G ∧ t ρ R Z ∧ (∀ x, R x → ∀ v H' G', EnvOk X.K F ρ σ H' G' → Same G G' → Keep ρ σ H H' G G' → Rel x v ρ σ H H' G' → Q v H') ∧ lX X F E G ρ σ Z
/-- plain data -/
def RelP (K : PySem.W.Frag) : D → V → List S → St → Hp → Hp → Hp → Prop := fun d v _ _ _ _ G => Rp K G d v
/-- a list to be read now -/
def RelL (K : PySem.W.Frag) : List D → V → List S → St → Hp → Hp → Hp → Prop := fun ds v ρ σ _ H G => ∃ a vs, v = .ref a ∧ vs.length ≤ sizeLine ∧ Rps K G ds vs ∧ ∀ H', KeepO ρ σ H H' → H' a = some (.lst vs)
/-- a new list of the def's own -/
def RelF (K : PySem.W.Frag) (F : Fx) : List D → V → List S → St → Hp → Hp → Hp → Prop := fun ds v ρ σ H0 H G => ∃ a vs, v = .ref a ∧ H0 a = none ∧ G a = none ∧ F.H0 a = none ∧ H a = some (.lst vs) ∧ vs.length ≤ sizeLine ∧ Rps K G ds vs ∧ ∀ (j : Nat) (t : S), ρ[j]? = some t → t.own = true → σ[j]? ≠ some (some (.ref a))
abbrev lE (X : Cx) (F : Fx) (E : EX) (t : DW D) : TE := lG X F E (RelP X.K) t
abbrev lL (X : Cx) (F : Fx) (E : EX) (t : DW (List D)) : TE := lG X F E (RelL X.K) t
abbrev lF (X : Cx) (F : Fx) (E : EX) (t : DW (List D)) : TE := lG X F E (RelF X.K F) t
def lT (X : Cx) (F : Fx) (E : EX) (t : DW Bool) : TT := fun σ H Q =>
  ∃ ρ G R Z, EnvOk X.K F ρ σ H G ∧ t ρ R Z ∧ (∀ b, R b → ∀ H' G', EnvOk X.K F ρ σ H' G' → Same G G' → Keep ρ σ H H' G G' → Q b H') ∧ lX X F E G ρ σ Z
def lA (X : Cx) (F : Fx) (E : EX) (t : DW (List D)) : TA := fun σ H Q =>
  ∃ ρ G R Z, EnvOk X.K F ρ σ H G ∧ t ρ R Z ∧ (∀ ds, R ds → ∀ vs H' G', EnvOk X.K F ρ σ H' G' → Same G G' → Keep ρ σ H H' G G' → Rps X.K G' ds vs → Q vs H') ∧ lX X F E G ρ σ Z
/-- a statement's ends -/
structure DE where
  nx : List S → Prop
  rt : D → Prop
  bk : List S → Prop
  ct : List S → Prop
  ex : List S → Str → Prop
abbrev DS := DE → List S → Prop
structure Ends' (X : Cx) (F : Fx) (E : EX) (G : Hp) (B : DE) (D : Ends) : Prop where
  nx : ∀ ρ, B.nx ρ → ∀ σ H G', EnvOk X.K F ρ σ H G' → Same G G' → D.nx σ H
  rt : ∀ d, B.rt d → ∀ v H G', EnvOk X.K F [] [] H G' → Rp X.K G' d v → D.rt v H
  bk : ∀ ρ, B.bk ρ → ∀ σ H G', EnvOk X.K F ρ σ H G' → Same G G' → D.bk σ H
  ct : ∀ ρ, B.ct ρ → ∀ σ H G', EnvOk X.K F ρ σ H G' → Same G G' → D.ct σ H
  ex : ∀ ρ σ, lX X F E G ρ σ (B.ex ρ)
theorem Ends'.mono {X : Cx} {F : Fx} {E : EX} {G G1 : Hp} {B : DE} {D : Ends} (e : Ends' X F E G B D) (s : Same G G1) : Ends' X F E G1 B D :=
  ⟨fun ρ h σ H G' E s' => e.nx ρ h σ H G' E (s.trans s'), e.rt, fun ρ h σ H G' E s' => e.bk ρ h σ H G' E (s.trans s'), fun ρ h σ H G' E s' => e.ct ρ h σ H G' E (s.trans s'), fun ρ σ => (e.ex ρ σ).mono s⟩
def lS (X : Cx) (F : Fx) (E : EX) (t : DS) : TS := fun D σ H => ∃ ρ G B, EnvOk X.K F ρ σ H G ∧ t B ρ ∧ Ends' X F E G B D

theorem _root_.L2.PE.imp {X : Cx} {e : Expr} {t t' : TE} (h : PE X e t) (k : ∀ σ H Q, t' σ H Q → t σ H Q) : PE X e t' := ⟨fun pins s σ H Q I q => h.run pins s σ H Q I (k _ _ _ q)⟩
theorem _root_.L2.PT.imp {X : Cx} {e : Expr} {t t' : TT} (h : PT X e t) (k : ∀ σ H Q, t' σ H Q → t σ H Q) : PT X e t' := ⟨fun pins s σ H Q I q => h.run pins s σ H Q I (k _ _ _ q)⟩
theorem _root_.L2.PW.imp {X : Cx} {e : Expr} {t t' : TT} (h : PW X e t) (k : ∀ σ H Q, t' σ H Q → t σ H Q) : PW X e t' := ⟨fun wh pins s σ H Q I q => h.run wh pins s σ H Q I (k _ _ _ q)⟩
theorem _root_.L2.PA.imp {X : Cx} {e : List Expr} {t t' : TA} (h : PA X e t) (k : ∀ σ H Q, t' σ H Q → t σ H Q) : PA X e t' := ⟨fun pos pins s σ H Q I q => h.run pos pins s σ H Q I (k _ _ _ q)⟩
theorem _root_.L2.PS.imp {X : Cx} {e : Stmt} {t t' : TS} (h : PS X e t) (k : ∀ D σ H, t' D σ H → t D σ H) : PS X e t' := ⟨fun pins s σ H D I q => h.run pins s σ H D I (k _ _ _ q)⟩
theorem _root_.L2.PSs.imp {X : Cx} {e : List Stmt} {t t' : TS} (h : PSs X e t) (k : ∀ D σ H, t' D σ H → t D σ H) : PSs X e t' := ⟨fun pins s σ H D I q => h.run pins s σ H D I (k _ _ _ q)⟩

section
variable {X : Cx} {F : Fx} {E : EX} {a b c e : Expr} {es : List Expr} {ta tb tc : DW D} {tA tB : DW Bool} {pos : Pos}
/-! ### names, constants -/
def dVar (i : Nat) : DW D := fun ρ R _ => ∃ d, ρ[i]? = some (.im d) ∧ R d
theorem e_of {e : Expr} {i : Nat} (h : PE X e (tVar i)) : PE X e (lE X F E (dVar i)) := h.imp fun σ H Q ⟨ρ, G, R, Z, E, ⟨d, hi, hd⟩, k, z⟩ => by
  obtain ⟨v, e1, r⟩ := E.slot i _ hi
  exact ⟨v, e1, k d hd v H G E (Same.refl G) .rfl r⟩
theorem e_var (i : Nat) {x : Str} {pos : Pos} (hN : X.N[i]? = some x := by rfl) (hv : Vis X.env.scope x := by first | exact Or.inl rfl | exact Or.inr (Or.inl rfl) | exact Or.inr (Or.inr rfl)) (hd : (x == ("__debug__" : Str)) = false := by decide)
    (hcd : (x == ("__classdict__" : Str)) = false := by decide) : PE X (.Name x pos) (lE X F E (dVar i)) := e_of (pe_var hN hv hd hcd)
/-- a constant -/
def dC (d : D) : DW D := fun _ R _ => R d
theorem e_c {e : Expr} {d : D} {v : V} (h : PE X e (tC v)) (r : ∀ G, Rp X.K G d v) : PE X e (lE X F E (dC d)) := h.imp fun σ H Q ⟨ρ, G, R, Z, E, h, k, z⟩ => k d h v H G E (Same.refl G) .rfl (r G)
theorem e_int {i : Int} {j pos} : PE X (.Constant (.int i) j pos) (lE X F E (dC (.int i))) := e_c pe_int fun _ => .int i
theorem e_bl {b j pos} : PE X (.Constant (.bool b) j pos) (lE X F E (dC (.bl b))) := e_c pe_bl fun _ => .bl b
theorem e_non {j pos} : PE X (.Constant .none j pos) (lE X F E (dC .non)) := e_c pe_non fun _ => .non
theorem e_str {x j pos} : PE X (.Constant (.str x) j pos) (lE X F E (dC (.str x))) := e_c pe_str fun _ => .str x
/-- a global int -/
theorem e_gint {x : Str} {i : Int} {u : Value} {pos : Pos} (hg : Gl X x) (hm : X.mg x = some u) (r : ∃ t, u = .int i t) (hd : (x == ("__debug__" : Str)) = false := by decide) : PE X (.Name x pos) (lE X F E (dC (.int i))) := e_c (pe_glob (v := .int i) hg hm r hd) fun _ => .int i
theorem e_gstr {x y : Str} {u : Value} {pos : Pos} (hg : Gl X x) (hm : X.mg x = some u) (r : ∃ t, u = .str y t) (hd : (x == ("__debug__" : Str)) = false := by decide) : PE X (.Name x pos) (lE X F E (dC (.str y))) := e_c (pe_glob (v := .str y) hg hm r hd) fun _ => .str y
theorem e_gref {x : Str} {f : Addr} {pos : Pos} (hg : Gl X x) (hm : X.mg x = some (.ref f)) (hd : (x == ("__debug__" : Str)) = false := by decide) : PE X (.Name x pos) (lE X F E (dC (.ref f))) := e_c (pe_glob (v := .ref f) hg hm rfl hd) fun _ => .ref f

/-! ### two places -/
abbrev D2 := D → D → (D → Prop) → Prop
def dBin (g : D2) (ta tb : DW D) : DW D := fun ρ R Z => ta ρ (fun x => tb ρ (fun y => g x y R) Z) Z
/-- what a rule by values must give -/
def OpD (X : Cx) (F : Fx) (r : R2) (g : D2) : Prop := ∀ (ρ : List S) (σ : St) (H G : Hp) (dx dy : D) (x y : V) (R : D → Prop) (Q : VK), EnvOk X.K F ρ σ H G → Rp X.K G dx x → Rp X.K G dy y → g dx dy R →
  (∀ d, R d → ∀ v H' G', EnvOk X.K F ρ σ H' G' → Same G G' → Keep ρ σ H H' G G' → Rp X.K G' d v → Q v H') → r x y H Q
theorem bin_lift {r : R2} {g : D2} (hg : OpD X F r g) : ∀ σ H Q, lE X F E (dBin g ta tb) σ H Q → tOp r (lE X F E ta) (lE X F E tb) σ H Q := by
  intro σ H Q ⟨ρ, G, R, Z, E0, h, k, z⟩
  refine ⟨ρ, G, _, Z, E0, h, fun dx hx x H1 G1 E1 s1 k1 rx => ?_, z⟩
  refine ⟨ρ, G1, _, Z, E1, hx, fun dy hy y H2 G2 E2 s2 k2 ry => ?_, z.mono s1⟩
  exact hg ρ σ H2 G2 dx dy x y R Q E2 (rx.mono s2) ry hy fun d hd v H3 G3 E3 s3 k3 rv => k d hd v H3 G3 E3 ((s1.trans s2).trans s3) ((k1.trans k2).trans k3) rv
theorem e_bin {op : Operator} {r : R2} {g : D2} (ho : OpR X (binaryOp op) r) (hg : OpD X F r g) (ha : PE X a (lE X F E ta)) (hb : PE X b (lE X F E tb)) : PE X (.BinOp a op b pos) (lE X F E (dBin g ta tb)) :=
  (pe_op ho ha hb).imp (bin_lift hg)
theorem e_cmp {op : CmpOp} {r : R2} {g : D2} (ho : OpR X (compareOp op) r) (hg : OpD X F r g) (ha : PE X a (lE X F E ta)) (hb : PE X b (lE X F E tb)) (hm : behindInMarks op b = false) : PE X (.Compare a [op] [b] pos) (lE X F E (dBin g ta tb)) :=
  (pe_cmpR ho ha hb hm).imp (bin_lift hg)
/-- a value that is a bool, as a test -/
def dB (t : DW D) : DW Bool := fun ρ R Z => t ρ (fun d => ∃ b, d = .bl b ∧ R b) Z
theorem b_lift {t : DW D} : ∀ σ H Q, lT X F E (dB t) σ H Q → tTest (lE X F E t) σ H Q := by
  intro σ H Q ⟨ρ, G, R, Z, E0, h, k, z⟩
  refine ⟨ρ, G, _, Z, E0, h, fun d hd v H1 G1 E1 s1 k1 r => ?_, z⟩
  obtain ⟨b, rfl, hb⟩ := hd
  cases r
  exact ⟨b, rfl, k b hb H1 G1 E1 s1 k1⟩
theorem t_cmp {op : CmpOp} {r : R2} {g : D2} (ho : OpR X (compareOp op) r) (hg : OpD X F r g) (ha : PE X a (lE X F E ta)) (hb : PE X b (lE X F E tb)) (hm : behindInMarks op b = false) : PT X (.Compare a [op] [b] pos) (lT X F E (dB (dBin g ta tb))) :=
  (pt_cmpR ho ha hb hm).imp fun σ H Q h => by
    obtain ⟨ρ, G, R, Z, E0, h, k, z⟩ := h
    refine bin_lift hg σ H _ ⟨ρ, G, _, Z, E0, h, fun d hd v H1 G1 E1 s1 k1 r => ?_, z⟩
    obtain ⟨b, rfl, hb⟩ := hd
    cases r
    exact ⟨b, rfl, k b hb H1 G1 E1 s1 k1⟩
theorem t_val {e : Expr} {t : DW D} (h : PE X e (lE X F E t)) (he : ∀ whole, isTrue e X.env whole = (do let v ← whole; standAt e.pos; holding [v] (truthy v)) := by intro _; rfl) : PT X e (lT X F E (dB t)) :=
  (pt_val h he).imp fun σ H Q h => b_lift σ H Q h

/-! ### chains -/
def dChain (g g' : D2) (ta tb tc : DW D) : DW D := fun ρ R Z => ta ρ (fun x => tb ρ (fun y => g x y fun q => ∃ k, q = .bl k ∧ (if k = true then tc ρ (fun w => g' y w R) Z else R (.bl false))) Z) Z

theorem chain_lift {r r' : R2} {g g' : D2} (hg : OpD X F r g) (hg' : OpD X F r' g') : ∀ σ H Q, lE X F E (dChain g g' ta tb tc) σ H Q → tChain r r' (lE X F E ta) (lE X F E tb) (lE X F E tc) σ H Q := by
  intro σ H Q ⟨ρ, G, R, Z, E0, h, k, z⟩
  refine ⟨ρ, G, _, Z, E0, h, fun dx hx x H1 G1 E1 s1 k1 rx => ?_, z⟩
  refine ⟨ρ, G1, _, Z, E1, hx, fun dy hy y H2 G2 E2 s2 k2 ry => ?_, z.mono s1⟩
  refine hg ρ σ H2 G2 dx dy x y _ _ E2 (rx.mono s2) ry hy fun d hd v H3 G3 E3 s3 k3 rv => ?_
  obtain ⟨b, rfl, hb⟩ := hd
  cases rv
  refine ⟨b, rfl, ?_⟩
  cases b with
  | false =>
    rw [if_neg Bool.false_ne_true] at hb ⊢
    exact k _ hb _ H3 G3 E3 ((s1.trans s2).trans s3) ((k1.trans k2).trans k3) (.bl false)
  | true =>
    rw [if_pos rfl] at hb ⊢
    refine ⟨ρ, G3, _, Z, E3, hb, fun dw hw w H4 G4 E4 s4 k4 rw' => ?_, z.mono ((s1.trans s2).trans s3)⟩
    exact hg' ρ σ H4 G4 dy dw y w R Q E4 ((ry.mono s3).mono s4) rw' hw fun d hd v H5 G5 E5 s5 k5 rv => k d hd v H5 G5 E5 ((((s1.trans s2).trans s3).trans s4).trans s5) ((((k1.trans k2).trans k3).trans k4).trans k5) rv
theorem e_chain {op op' : CmpOp} {r r' : R2} {g g' : D2} (ho : OpR X (compareOp op) r) (hg : OpD X F r g) (ho' : OpR X (compareOp op') r') (hg' : OpD X F r' g') (ha : PE X a (lE X F E ta)) (hb : PE X b (lE X F E tb)) (hc : PE X c (lE X F E tc))
    (hm : lastMarks [op, op'] [b, c] = false := by with_unfolding_all rfl) : PE X (.Compare a [op, op'] [b, c] pos) (lE X F E (dChain g g' ta tb tc)) := (pe_chain ho ho' ha hb hc hm).imp (chain_lift hg hg')
theorem t_chain {op op' : CmpOp} {r r' : R2} {g g' : D2} (ho : OpR X (compareOp op) r) (hg : OpD X F r g) (ho' : OpR X (compareOp op') r') (hg' : OpD X F r' g') (ha : PE X a (lE X F E ta)) (hb : PE X b (lE X F E tb)) (hc : PE X c (lE X F E tc))
    (hm : lastMarks [op, op'] [b, c] = false := by with_unfolding_all rfl) : PT X (.Compare a [op, op'] [b, c] pos) (lT X F E (dB (dChain g g' ta tb tc))) := (pt_chain ho ho' ha hb hc hm).imp fun σ H Q h => by
  obtain ⟨ρ, G, R, Z, E0, h, k, z⟩ := h
  refine chain_lift hg hg' σ H _ ⟨ρ, G, _, Z, E0, h, fun d hd v H1 G1 E1 s1 k1 r => ?_, z⟩
  obtain ⟨b, rfl, hb⟩ := hd
  cases r
  exact ⟨b, rfl, k b hb H1 G1 E1 s1 k1⟩

/-! ### and, or, not -/
variable {rest : List Expr}
def dAndT (t u : DW Bool) : DW Bool := fun ρ R Z => t ρ (fun c => if c = true then u ρ R Z else R false) Z
def dOrT (t u : DW Bool) : DW Bool := fun ρ R Z => t ρ (fun c => if c = true then R true else u ρ R Z) Z
def dNotT (t : DW Bool) : DW Bool := fun ρ R Z => t ρ (fun c => R (!c)) Z
theorem w_and1 (ha : PT X a (lT X F E tA)) : PW X (.BoolOp .And [a] pos) (lT X F E tA) := pw_and1 ha
theorem w_or1 (ha : PT X a (lT X F E tA)) : PW X (.BoolOp .Or [a] pos) (lT X F E tA) := pw_or1 ha
theorem w_and (ha : PT X a (lT X F E tA)) (hb : PW X (.BoolOp .And (b :: rest) pos) (lT X F E tB)) : PW X (.BoolOp .And (a :: b :: rest) pos) (lT X F E (dAndT tA tB)) := (pw_and ha hb).imp fun σ H Q ⟨ρ, G, R, Z, E0, h, k, z⟩ => by
  refine ⟨ρ, G, _, Z, E0, h, fun b hb H1 G1 E1 s1 k1 => ?_, z⟩
  cases b with
  | true => rw [if_pos rfl] at hb ⊢; exact ⟨ρ, G1, R, Z, E1, hb, fun b hb H2 G2 E2 s2 k2 => k b hb H2 G2 E2 (s1.trans s2) (k1.trans k2), z.mono s1⟩
  | false => rw [if_neg Bool.false_ne_true] at hb ⊢; exact k _ hb H1 G1 E1 s1 k1
theorem w_or (ha : PT X a (lT X F E tA)) (hb : PW X (.BoolOp .Or (b :: rest) pos) (lT X F E tB)) : PW X (.BoolOp .Or (a :: b :: rest) pos) (lT X F E (dOrT tA tB)) := (pw_or ha hb).imp fun σ H Q ⟨ρ, G, R, Z, E0, h, k, z⟩ => by
  refine ⟨ρ, G, _, Z, E0, h, fun b hb H1 G1 E1 s1 k1 => ?_, z⟩
  cases b with
  | false => rw [if_neg Bool.false_ne_true] at hb ⊢; exact ⟨ρ, G1, R, Z, E1, hb, fun b hb H2 G2 E2 s2 k2 => k b hb H2 G2 E2 (s1.trans s2) (k1.trans k2), z.mono s1⟩
  | true => rw [if_pos rfl] at hb ⊢; exact k _ hb H1 G1 E1 s1 k1
theorem t_not (ha : PT X a (lT X F E tA)) : PT X (.UnaryOp .Not a pos) (lT X F E (dNotT tA)) := (pt_not ha).imp fun σ H Q ⟨ρ, G, R, Z, E0, h, k, z⟩ =>
  ⟨ρ, G, _, Z, E0, h, fun b hb H1 G1 E1 s1 k1 => k _ hb H1 G1 E1 s1 k1, z⟩
/-- as values: all but the last are bools -/
def dAnd (ta tb : DW D) : DW D := fun ρ R Z => ta ρ (fun x => ∃ c, x = .bl c ∧ if c = true then tb ρ R Z else R (.bl false)) Z
def dOr (ta tb : DW D) : DW D := fun ρ R Z => ta ρ (fun x => ∃ c, x = .bl c ∧ if c = true then R (.bl true) else tb ρ R Z) Z
def dNot (ta : DW D) : DW D := fun ρ R Z => ta ρ (fun x => ∃ c, x = .bl c ∧ R (.bl (!c))) Z
theorem e_one {op} (h : PE X a (lE X F E ta)) : PE X (.BoolOp op [a] pos) (lE X F E ta) := pe_one h
theorem e_and (ha : PE X a (lE X F E ta)) (hb : PE X (.BoolOp .And (b :: rest) pos) (lE X F E tb)) : PE X (.BoolOp .And (a :: b :: rest) pos) (lE X F E (dAnd ta tb)) := (pe_and ha hb).imp fun σ H Q ⟨ρ, G, R, Z, E0, h, k, z⟩ => by
  refine ⟨ρ, G, _, Z, E0, h, fun d hd v H1 G1 E1 s1 k1 r => ?_, z⟩
  obtain ⟨b, rfl, hb⟩ := hd
  cases r
  refine ⟨b, rfl, ?_⟩
  cases b with
  | true => rw [if_pos rfl] at hb ⊢; exact ⟨ρ, G1, R, Z, E1, hb, fun d hd v H2 G2 E2 s2 k2 r => k d hd v H2 G2 E2 (s1.trans s2) (k1.trans k2) r, z.mono s1⟩
  | false => rw [if_neg Bool.false_ne_true] at hb ⊢; exact k _ hb _ H1 G1 E1 s1 k1 (.bl false)
theorem e_or (ha : PE X a (lE X F E ta)) (hb : PE X (.BoolOp .Or (b :: rest) pos) (lE X F E tb)) : PE X (.BoolOp .Or (a :: b :: rest) pos) (lE X F E (dOr ta tb)) := (pe_or ha hb).imp fun σ H Q ⟨ρ, G, R, Z, E0, h, k, z⟩ => by
  refine ⟨ρ, G, _, Z, E0, h, fun d hd v H1 G1 E1 s1 k1 r => ?_, z⟩
  obtain ⟨b, rfl, hb⟩ := hd
  cases r
  refine ⟨b, rfl, ?_⟩
  cases b with
  | false => rw [if_neg Bool.false_ne_true] at hb ⊢; exact ⟨ρ, G1, R, Z, E1, hb, fun d hd v H2 G2 E2 s2 k2 r => k d hd v H2 G2 E2 (s1.trans s2) (k1.trans k2) r, z.mono s1⟩
  | true => rw [if_pos rfl] at hb ⊢; exact k _ hb _ H1 G1 E1 s1 k1 (.bl true)
theorem e_not (ha : PE X a (lE X F E ta)) : PE X (.UnaryOp .Not a pos) (lE X F E (dNot ta)) := (pe_not ha).imp fun σ H Q ⟨ρ, G, R, Z, E0, h, k, z⟩ => by
  refine ⟨ρ, G, _, Z, E0, h, fun d hd v H1 G1 E1 s1 k1 r => ?_, z⟩
  obtain ⟨b, rfl, hb⟩ := hd
  cases r
  exact ⟨b, rfl, k _ hb _ H1 G1 E1 s1 k1 (.bl _)⟩
def dIf (t : DW Bool) (ta tb : DW D) : DW D := fun ρ R Z => t ρ (fun c => if c = true then ta ρ R Z else tb ρ R Z) Z
theorem e_if (hc : PT X c (lT X F E tA)) (ha : PE X a (lE X F E ta)) (hb : PE X b (lE X F E tb)) : PE X (.IfExp c a b pos) (lE X F E (dIf tA ta tb)) := (pe_ifExp hc ha hb).imp fun σ H Q ⟨ρ, G, R, Z, E0, h, k, z⟩ => by
  refine ⟨ρ, G, _, Z, E0, h, fun c hc H1 G1 E1 s1 k1 => ?_, z⟩
  cases c with
  | true => rw [if_pos rfl] at hc ⊢; exact ⟨ρ, G1, R, Z, E1, hc, fun d hd v H2 G2 E2 s2 k2 r => k d hd v H2 G2 E2 (s1.trans s2) (k1.trans k2) r, z.mono s1⟩
  | false => rw [if_neg Bool.false_ne_true] at hc ⊢; exact ⟨ρ, G1, R, Z, E1, hc, fun d hd v H2 G2 E2 s2 k2 r => k d hd v H2 G2 E2 (s1.trans s2) (k1.trans k2) r, z.mono s1⟩

/-! ### lists of arguments, displays -/
def dNil : DW (List D) := fun _ R _ => R []
def dCons (ta : DW D) (ts : DW (List D)) : DW (List D) := fun ρ R Z => ta ρ (fun x => ts ρ (fun xs => R (x :: xs)) Z) Z
variable {ts : DW (List D)}
theorem a_nil : PA X [] (lA X F E dNil) := pa_nil.imp fun σ H Q ⟨ρ, G, R, Z, E0, h, k, z⟩ => k _ h _ H G E0 (Same.refl G) .rfl .nil
theorem a_cons (ha : PE X e (lE X F E ta)) (hr : PA X es (lA X F E ts)) (hs : starEach (e :: es) X.env = (false, eval e X.env) :: starEach es X.env := by rfl) : PA X (e :: es) (lA X F E (dCons ta ts)) := (pa_cons ha hr hs).imp fun σ H Q ⟨ρ, G, R, Z, E0, h, k, z⟩ => by
  refine ⟨ρ, G, _, Z, E0, h, fun d hd v H1 G1 E1 s1 k1 r => ?_, z⟩
  refine ⟨ρ, G1, _, Z, E1, hd, fun ds hds vs H2 G2 E2 s2 k2 rs => ?_, z.mono s1⟩
  exact k _ hds _ H2 G2 E2 (s1.trans s2) (k1.trans k2) (.cons (r.mono s2) rs)
def dTup (ts : DW (List D)) : DW D := fun ρ R Z => ts ρ (fun ds => ds.length ≤ sizeLine ∧ R (.tup ds)) Z
def dLst (ts : DW (List D)) : DW D := fun ρ R Z => ts ρ (fun ds => ds.length ≤ sizeLine ∧ R (.lst ds)) Z
def dLstF (ts : DW (List D)) : DW (List D) := fun ρ R Z => ts ρ (fun ds => ds.length ≤ sizeLine ∧ R ds) Z
theorem e_tup {x1} (h : PA X es (lA X F E ts)) : PE X (.Tuple es x1 pos) (lE X F E (dTup ts)) := (pe_tupF h).imp fun σ H Q ⟨ρ, G, R, Z, E0, h, k, z⟩ => by
  refine ⟨ρ, G, _, Z, E0, h, fun ds hds vs H1 G1 E1 s1 k1 r => ⟨by rw [← r.length]; exact hds.1, fun p o np hd => ?_⟩, z⟩
  have sn := same_new (o := .frz o (.tup vs)) (E1.gnone np)
  exact k _ hds.2 _ _ _ (E1.frz np) (s1.trans sn) (k1.trans (.frz np)) (.tup (.new hd) (by rw [← r.length]; exact hds.1) (r.mono sn))
theorem e_lst (h : PA X es (lA X F E ts)) : PE X (.List es pos) (lE X F E (dLst ts)) := (pe_lst h).imp fun σ H Q ⟨ρ, G, R, Z, E0, h, k, z⟩ => by
  refine ⟨ρ, G, _, Z, E0, h, fun ds hds vs H1 G1 E1 s1 k1 r => ⟨by rw [← r.length]; exact hds.1, fun p np => ?_⟩, z⟩
  have sn := same_new (o := .lst vs) (E1.gnone np)
  exact k _ hds.2 _ _ _ (E1.frz np) (s1.trans sn) (k1.trans (.frz np)) (.lst upd_same (by rw [← r.length]; exact hds.1) (r.mono sn))
theorem EnvOk.notOwn {K : PySem.W.Frag} {F : Fx} {ρ : List S} {σ : St} {H G : Hp} {p : Addr} (E : EnvOk K F ρ σ H G) (np : H p = none) : ∀ (j : Nat) (t : S), ρ[j]? = some t → t.own = true → σ[j]? ≠ some (some (.ref p)) := fun j t e w x => by
  obtain ⟨a, u, h1, _, h2, _⟩ := (E.slot j t e).ownAt w
  rw [h1] at x
  cases x
  rw [h2] at np
  cases np
theorem f_lst (h : PA X es (lA X F E ts)) : PE X (.List es pos) (lF X F E (dLstF ts)) := (pe_lst h).imp fun σ H Q ⟨ρ, G, R, Z, E0, h, k, z⟩ => by
  refine ⟨ρ, G, _, Z, E0, h, fun ds hds vs H1 G1 E1 s1 k1 r => ⟨by rw [← r.length]; exact hds.1, fun p np => ?_⟩, z⟩
  exact k _ hds.2 _ _ _ (E1.new np) s1 (k1.trans (.new np)) ⟨p, vs, rfl, (by cases q : H p with | none => rfl | some u => exact absurd np (k1.trk p (by rw [q]; simp))), E1.gnone np, E1.h0none np, upd_same, by rw [← r.length]; exact hds.1, r, (E1.notOwn np)⟩

/-! ### a list of the def's own: frozen, read -/
theorem e_ofF {t : DW (List D)} (h : PE X e (lF X F E t)) : PE X e (lE X F E (fun ρ R Z => t ρ (fun ds => R (.lst ds)) Z)) := h.imp fun σ H Q ⟨ρ, G, R, Z, E0, h, k, z⟩ => by
  refine ⟨ρ, G, _, Z, E0, h, fun ds hds v H1 G1 E1 s1 k1 r => ?_, z⟩
  obtain ⟨a, vs, rfl, hs, ga, h0, ha, hz, rs, no⟩ := r
  have sn := same_new (o := .lst vs) ga
  exact k _ hds _ _ _ (E1.freeze ha ga h0 no) (s1.trans sn) ⟨k1.obj, k1.trk, fun b hb gb => by rw [upd_ne (fun z => by subst z; exact hb hs)]; exact k1.fre b hb gb⟩ (.lst upd_same hz (rs.mono sn))
theorem l_ofF {t : DW (List D)} (h : PE X e (lF X F E t)) : PE X e (lL X F E t) := h.imp fun σ H Q ⟨ρ, G, R, Z, E0, h, k, z⟩ => by
  refine ⟨ρ, G, _, Z, E0, h, fun ds hds v H1 G1 E1 s1 k1 r => ?_, z⟩
  obtain ⟨a, vs, rfl, hs, ga, h0, ha, hz, rs, no⟩ := r
  exact k _ hds _ _ _ E1 s1 k1 ⟨a, vs, rfl, hz, rs, fun H' kp => kp a _ ha fun i e x => no i _ e rfl x⟩
def dL (t : DW D) : DW (List D) := fun ρ R Z => t ρ (fun d => ∃ ds, d = .lst ds ∧ R ds) Z
theorem l_ofE {t : DW D} (h : PE X e (lE X F E t)) : PE X e (lL X F E (dL t)) := h.imp fun σ H Q ⟨ρ, G, R, Z, E0, h, k, z⟩ => by
  refine ⟨ρ, G, _, Z, E0, h, fun d hd v H1 G1 E1 s1 k1 r => ?_, z⟩
  obtain ⟨ds, rfl, hd⟩ := hd
  cases r with
  | lst ga hz rs =>
    refine k _ hd _ _ _ E1 s1 k1 ⟨_, _, rfl, hz, rs, fun H' kp => kp _ _ (E1.sub _ _ ga) fun i e x => ?_⟩
    obtain ⟨b, h1, h2, _⟩ := E1.slot i _ e
    rw [h1] at x
    cases x
    rw [h2] at ga
    cases ga
def dOwn (i : Nat) : DW (List D) := fun ρ R _ => ∃ ds, ρ[i]? = some (.ol ds) ∧ R ds
theorem l_own (i : Nat) {x : Str} {pos : Pos} (hN : X.N[i]? = some x := by rfl) (hv : Vis X.env.scope x := by first | exact Or.inl rfl | exact Or.inr (Or.inl rfl) | exact Or.inr (Or.inr rfl)) (hd : (x == ("__debug__" : Str)) = false := by decide)
    (hcd : (x == ("__classdict__" : Str)) = false := by decide) : PE X (.Name x pos) (lL X F E (dOwn i)) := (pe_var hN hv hd hcd).imp fun σ H Q ⟨ρ, G, R, Z, E0, ⟨ds, hi, hd⟩, k, z⟩ => by
  obtain ⟨a, vs, h1, h2, h3, h4, hz, h5⟩ := E0.slot i _ hi
  refine ⟨_, h1, k _ hd _ _ _ E0 (Same.refl G) .rfl ⟨a, vs, rfl, hz, h5, fun H' kp => kp a _ h4 fun j e x => ?_⟩⟩
  have ij : i ≠ j := fun q => by subst q; rw [hi] at e; cases e
  exact E0.dis i j a _ _ ij hi e rfl rfl h1 x
end
end DL
namespace DL
open PySem PySem.Spec PyProof.Rows L2

/-! ### data as the model's data -/
mutual
def pyD : D → PyData
  | .non => .none
  | .bl b => .bool b
  | .int i => .int i
  | .str x => .str x
  | .tup xs => .tuple (pyDs xs)
  | .lst xs => .list (pyDs xs)
  | .dk _ _ => .dict []
  | .dt _ _ => .dict []
  | .set _ => .dict []
  | .ref _ => .dict []
def pyDs : List D → List PyData
  | [] => []
  | d :: ds => pyD d :: pyDs ds
end
/-- == of Python -/
def eqvD (d e : D) : Bool := PyData.eqv (pyD d) (pyD e)
def okD (d : D) : Bool := SeqAt.shaped (pyD d)
mutual
theorem Rp.dp {K : PySem.W.Frag} {G H : Hp} (s : Same G H) : ∀ (d : D) {v : V}, Rp K G d v → (pyD d).canLay0 = true → Dp K H v (pyD d)
  | .non, _, .non, _ => .non
  | .bl b, _, .bl _, _ => .bl b
  | .int i, _, .int _, _ => .int i
  | .str x, _, .str _, _ => .str x
  | .tup xs, _, .tup h _ r, c => .tup (Same.seqT s h) (Rps.dp s xs r (by simpa [pyD, PyData.canLay0] using c))
  | .lst xs, _, .lst h _ r, c => .lst (.inl (.inl (s _ _ h))) (Rps.dp s xs r (by simpa [pyD, PyData.canLay0] using c))
  | .dk _ _, _, _, c => by simp [pyD, PyData.canLay0] at c
  | .dt _ _, _, _, c => by simp [pyD, PyData.canLay0] at c
  | .set _, _, _, c => by simp [pyD, PyData.canLay0] at c
  | .ref _, _, _, c => by simp [pyD, PyData.canLay0] at c
theorem Rps.dp {K : PySem.W.Frag} {G H : Hp} (s : Same G H) : ∀ (ds : List D) {vs : List V}, Rps K G ds vs → PyData.canLayAll0 (pyDs ds) = true → DpAll K H vs (pyDs ds)
  | [], _, .nil, _ => .nil
  | d :: ds, _, .cons h r, c => by
    have c' : (pyD d).canLay0 = true ∧ PyData.canLayAll0 (pyDs ds) = true := by simpa [pyDs, PyData.canLayAll0] using c
    exact .cons (Rp.dp s d h c'.1) (Rps.dp s ds r c'.2)
end
theorem lay_ok {d : D} (h : okD d = true) : (pyD d).canLay0 = true := SeqAt.canLay_of_shaped h

/-! ### operators -/
section
variable {X : Cx} {F : Fx}
theorem opd_or {r r' : R2} {g g' h : D2} (a : OpD X F r g) (b : OpD X F r' g') (k : ∀ x y R, h x y R → g x y R ∨ g' x y R) : OpD X F (fun x y H Q => r x y H Q ∨ r' x y H Q) h := by
  intro ρ σ H G dx dy x y R Q E rx ry hh kk
  rcases k _ _ _ hh with q | q
  · exact .inl (a ρ σ H G dx dy x y R Q E rx ry q kk)
  · exact .inr (b ρ σ H G dx dy x y R Q E rx ry q kk)
/-- two ints to a flat value -/
def gI (C : Int → Int → Prop) (f : Int → Int → D) : D2
  | .int i, .int j, R => C i j ∧ R (f i j)
  | _, _, _ => False
theorem opd_I {C : Int → Int → Prop} {f : Int → Int → Int} : OpD X F (rI C fun i j => .int (f i j)) (gI C fun i j => .int (f i j)) := by
  intro ρ σ H G dx dy x y R Q E rx ry h k
  cases dx with
  | int i => cases dy with
    | int j =>
      cases rx
      cases ry
      exact ⟨i, j, rfl, rfl, h.1, k _ h.2 _ H G E (Same.refl G) .rfl (.int _)⟩
    | _ => exact h.elim
  | _ => exact h.elim
def gI0 (f : Int → Int → D) : D2
  | .int i, .int j, R => R (f i j)
  | _, _, _ => False
theorem opd_I0 {f : Int → Int → Int} : OpD X F (rI0 fun i j => .int (f i j)) (gI0 fun i j => .int (f i j)) := by
  intro ρ σ H G dx dy x y R Q E rx ry h k
  cases dx with
  | int i => cases dy with
    | int j =>
      cases rx
      cases ry
      exact ⟨i, j, rfl, rfl, k _ h _ H G E (Same.refl G) .rfl (.int _)⟩
    | _ => exact h.elim
  | _ => exact h.elim
theorem opd_B0 {f : Int → Int → Bool} : OpD X F (rI0 fun i j => .bl (f i j)) (gI0 fun i j => .bl (f i j)) := by
  intro ρ σ H G dx dy x y R Q E rx ry h k
  cases dx with
  | int i => cases dy with
    | int j =>
      cases rx
      cases ry
      exact ⟨i, j, rfl, rfl, k _ h _ H G E (Same.refl G) .rfl (.bl _)⟩
    | _ => exact h.elim
  | _ => exact h.elim
def gSub : D2 := gI0 fun i j => .int (i - j)
def gMul : D2 := gI CMul fun i j => .int (i * j)
def gFdiv : D2 := gI CDiv fun i j => .int (i / j)
def gMod : D2 := gI (fun _ j => 0 < j) fun i j => .int (i % j)
def gPow : D2 := gI CPow fun i j => .int (i ^ j.toNat)
/-- + of ints, texts, tuples, lists -/
def gAddS : D2
  | .str x, .str y, R => x.length + y.length ≤ sizeLine ∧ R (.str (x ++ y))
  | _, _, _ => False
def gAddT : D2
  | .tup x, .tup y, R => x.length + y.length ≤ sizeLine ∧ R (.tup (x ++ y))
  | _, _, _ => False
def gAddL : D2
  | .lst x, .lst y, R => x.length + y.length ≤ sizeLine ∧ R (.lst (x ++ y))
  | _, _, _ => False
theorem opd_addS : OpD X F (fun x y H Q => ∃ i j, x = .str i ∧ y = .str j ∧ i.length + j.length ≤ sizeLine ∧ Q (.str (i ++ j)) H) gAddS := by
  intro ρ σ H G dx dy x y R Q E rx ry h k
  cases dx with
  | str i => cases dy with
    | str j =>
      cases rx
      cases ry
      exact ⟨i, j, rfl, rfl, h.1, k _ h.2 _ H G E (Same.refl G) .rfl (.str _)⟩
    | _ => exact h.elim
  | _ => exact h.elim
theorem opd_addT : OpD X F (rCatF X.K) gAddT := by
  intro ρ σ H G dx dy x y R Q E rx ry h k
  cases dx with
  | tup xs => cases dy with
    | tup ys =>
      cases rx with
      | tup hx zx rx => cases ry with
        | tup hy zy ry =>
          rename_i a vs b ws
          have l1 := rx.length
          have l2 := ry.length
          refine ⟨a, b, vs, ws, rfl, rfl, Same.seqT E.sub hx, Same.seqT E.sub hy, by rw [← l1, ← l2]; exact h.1, fun e => ?_, fun _ e => ?_, fun _ _ p o np hd => ?_⟩
          · subst e
            cases rx
            exact k _ h.2 _ H G E (Same.refl G) .rfl (.tup hy zy ry)
          · subst e
            cases ry
            have q := h.2
            rw [List.append_nil] at q
            exact k _ q _ H G E (Same.refl G) .rfl (.tup hx zx rx)
          · have sn := same_new (o := .frz o (.tup (vs ++ ws))) (E.gnone np)
            exact k _ h.2 _ _ _ (E.frz np) sn (.frz np) (.tup (.new hd) (by rw [List.length_append, ← l1, ← l2]; exact h.1) ((rx.append ry).mono sn))
    | _ => exact h.elim
  | _ => exact h.elim
theorem opd_addL : OpD X F rCat gAddL := by
  intro ρ σ H G dx dy x y R Q E rx ry h k
  cases dx with
  | lst xs => cases dy with
    | lst ys =>
      cases rx with
      | lst hx zx rx => cases ry with
        | lst hy zy ry =>
          rename_i a vs b ws
          have l1 := rx.length
          have l2 := ry.length
          refine ⟨a, b, vs, ws, rfl, rfl, E.sub _ _ hx, E.sub _ _ hy, by rw [← l1, ← l2]; exact h.1, fun p np => ?_⟩
          have sn := same_new (o := .lst (vs ++ ws)) (E.gnone np)
          exact k _ h.2 _ _ _ (E.frz np) sn (.frz np) (.lst upd_same (by rw [List.length_append, ← l1, ← l2]; exact h.1) ((rx.append ry).mono sn))
    | _ => exact h.elim
  | _ => exact h.elim
def gAdd : D2
  | .int i, .int j, R => R (.int (i + j))
  | .str x, .str y, R => x.length + y.length ≤ sizeLine ∧ R (.str (x ++ y))
  | .tup x, .tup y, R => x.length + y.length ≤ sizeLine ∧ R (.tup (x ++ y))
  | .lst x, .lst y, R => x.length + y.length ≤ sizeLine ∧ R (.lst (x ++ y))
  | _, _, _ => False
abbrev rAddAll (K : PySem.W.Frag) : R2 := fun x y H Q => (rI0 fun i j => .int (i + j)) x y H Q ∨ ((∃ i j, x = .str i ∧ y = .str j ∧ i.length + j.length ≤ sizeLine ∧ Q (.str (i ++ j)) H) ∨ (rCatF K x y H Q ∨ rCat x y H Q))
theorem opr_add : OpR X (binaryOp .Add) (rAddAll X.K) := op_add.or (op_add_str.or (op_catF.or op_cat))
theorem opd_add : OpD X F (rAddAll X.K) gAdd := by
  refine opd_or (g' := fun x y R => gAddS x y R ∨ (gAddT x y R ∨ gAddL x y R)) (opd_I0 (f := fun i j => i + j)) (opd_or (g' := fun x y R => gAddT x y R ∨ gAddL x y R) opd_addS (opd_or opd_addT opd_addL fun _ _ _ q => q) fun _ _ _ q => q) fun x y R h => ?_
  cases x <;> cases y <;> first
    | exact .inl h
    | exact .inr (.inl h)
    | exact .inr (.inr (.inl h))
    | exact .inr (.inr (.inr h))
/-- == -/
def gEq : D2 := fun d e R => okD d = true ∧ okD e = true ∧ R (.bl (eqvD d e))
def gNe : D2 := fun d e R => okD d = true ∧ okD e = true ∧ R (.bl (!eqvD d e))
theorem opd_eq : OpD X F (rEqD X.K) gEq := by
  intro ρ σ H G dx dy x y R Q E rx ry h k
  exact ⟨_, _, rx.dp E.sub _ (lay_ok h.1), ry.dp E.sub _ (lay_ok h.2.1), h.1, h.2.1, k _ h.2.2 _ H G E (Same.refl G) .rfl (.bl _)⟩
theorem opd_ne : OpD X F (rNeD X.K) gNe := by
  intro ρ σ H G dx dy x y R Q E rx ry h k
  exact ⟨_, _, rx.dp E.sub _ (lay_ok h.1), ry.dp E.sub _ (lay_ok h.2.1), h.1, h.2.1, k _ h.2.2 _ H G E (Same.refl G) .rfl (.bl _)⟩
/-- < of ints, texts, tuples of ints -/
def unInts : List D → Option (List Int)
  | [] => some []
  | .int i :: r => (unInts r).map (i :: ·)
  | _ => none
theorem unInts_map : ∀ ns : List Int, unInts (ns.map D.int) = some ns
  | [] => rfl
  | n :: ns => by
    show (unInts (ns.map D.int)).map (n :: ·) = _
    rw [unInts_map ns]
    rfl
theorem unInts_of : ∀ {ds : List D} {ns : List Int}, unInts ds = some ns → ds = ns.map D.int
  | [], ns, h => by cases h; rfl
  | .int i :: r, ns, h => by
    have h' : (unInts r).map (i :: ·) = some ns := h
    cases e : unInts r with
    | none => rw [e] at h'; cases h'
    | some ms =>
      rw [e] at h'
      cases h'
      rw [unInts_of e]
      rfl
  | .non :: _, _, h => by cases h
  | .bl _ :: _, _, h => by cases h
  | .str _ :: _, _, h => by cases h
  | .tup _ :: _, _, h => by cases h
  | .lst _ :: _, _, h => by cases h
  | .dk _ _ :: _, _, h => by cases h
  | .dt _ _ :: _, _, h => by cases h
  | .set _ :: _, _, h => by cases h
  | .ref _ :: _, _, h => by cases h
def gLtS : D2
  | .str x, .str y, R => R (.bl (decide (x.cps.toList < y.cps.toList)))
  | _, _, _ => False
def gLtT : D2
  | .tup x, .tup y, R => ∃ ns ms, unInts x = some ns ∧ unInts y = some ms ∧ R (.bl (HT.lexLt ns ms))
  | _, _, _ => False
def gLt : D2
  | .int i, .int j, R => R (.bl (decide (i < j)))
  | .str x, .str y, R => R (.bl (decide (x.cps.toList < y.cps.toList)))
  | .tup x, .tup y, R => ∃ ns ms, unInts x = some ns ∧ unInts y = some ms ∧ R (.bl (HT.lexLt ns ms))
  | _, _, _ => False
theorem opd_ltS : OpD X F (fun x y H Q => ∃ i j, x = .str i ∧ y = .str j ∧ Q (.bl (decide (i.cps.toList < j.cps.toList))) H) gLtS := by
  intro ρ σ H G dx dy x y R Q E rx ry h k
  cases dx with
  | str i => cases dy with
    | str j =>
      cases rx
      cases ry
      exact ⟨i, j, rfl, rfl, k _ h _ H G E (Same.refl G) .rfl (.bl _)⟩
    | _ => exact h.elim
  | _ => exact h.elim
theorem opd_ltT : OpD X F (rLtT X.K) gLtT := by
  intro ρ σ H G dx dy x y R Q E rx ry h k
  cases dx with
  | tup xs => cases dy with
    | tup ys =>
      cases rx with
      | tup hx zx rx => cases ry with
        | tup hy _ ry =>
          obtain ⟨ns, ms, e1, e2, q⟩ := h
          cases unInts_of e1
          cases unInts_of e2
          cases rx.ints
          cases ry.ints
          exact ⟨_, _, ns, ms, rfl, rfl, Same.seqT E.sub hx, Same.seqT E.sub hy, k _ q _ H G E (Same.refl G) .rfl (.bl _)⟩
    | _ => exact h.elim
  | _ => exact h.elim
abbrev rLtAll (K : PySem.W.Frag) : R2 := fun x y H Q => (rI0 fun i j => .bl (decide (i < j))) x y H Q ∨ ((∃ i j, x = .str i ∧ y = .str j ∧ Q (.bl (decide (i.cps.toList < j.cps.toList))) H) ∨ rLtT K x y H Q)
theorem opr_lt (hu : X.A.units < cLine) : OpR X (compareOp .Lt) (rLtAll X.K) := op_lt.or (op_lt_str.or (op_ltT hu))
theorem opd_lt : OpD X F (rLtAll X.K) gLt := by
  refine opd_or (g' := fun x y R => gLtS x y R ∨ gLtT x y R) (opd_B0 (f := fun i j => decide (i < j))) (opd_or opd_ltS opd_ltT fun _ _ _ q => q) fun x y R h => ?_
  cases x <;> cases y <;> first
    | exact .inl h
    | exact .inr (.inl h)
    | exact .inr (.inr h)
def gLe : D2 := gI0 fun i j => .bl (decide (i ≤ j))
def gGt : D2 := gI0 fun i j => .bl (decide (j < i))
def gGe : D2 := gI0 fun i j => .bl (decide (j ≤ i))
/-- in: a list or tuple of flat things; a text in a text; a list of data at any depth -/
def flatD : D → Bool
  | .non => true
  | .bl _ => true
  | .int _ => true
  | .str _ => true
  | _ => false
def inF (d : D) (ds : List D) : Bool := ds.any fun y => eqvD y d
theorem Rp.flat {K : PySem.W.Frag} {G : Hp} {d : D} {v : V} (h : Rp K G d v) (f : flatD d = true) : flatV v = true := by
  cases h <;> first | rfl | exact absurd f Bool.false_ne_true
theorem Rp.eqv {K : PySem.W.Frag} {G : Hp} {d e : D} {v w : V} (h : Rp K G d v) (h' : Rp K G e w) (f : flatD d = true) (f' : flatD e = true) : eqV v w = eqvD d e := by
  cases h <;> first
    | exact absurd f Bool.false_ne_true
    | (cases h' <;> first | exact absurd f' Bool.false_ne_true | simp [eqV, eqvD, pyD, PyData.eqv])
theorem Rps.flat {K : PySem.W.Frag} {G : Hp} : ∀ {ds : List D} {vs : List V}, Rps K G ds vs → ds.all flatD = true → vs.all flatV = true
  | _, _, .nil, _ => rfl
  | _, _, .cons h r, f => by
    rw [List.all_cons, Bool.and_eq_true] at f ⊢
    exact ⟨h.flat f.1, r.flat f.2⟩
theorem Rps.inV {K : PySem.W.Frag} {G : Hp} {e : D} {w : V} (h : Rp K G e w) (fe : flatD e = true) : ∀ {ds : List D} {vs : List V}, Rps K G ds vs → ds.all flatD = true → L2.inV w vs = inF e ds
  | _, _, .nil, _ => rfl
  | _, _, .cons h' r, f => by
    rw [List.all_cons, Bool.and_eq_true] at f
    have ih := Rps.inV h fe r f.2
    unfold L2.inV inF at *
    rw [List.any_cons, List.any_cons, ih, h'.eqv h f.1 fe]
def gInS : D2
  | .str x, .str y, R => R (.bl (!(Builtin.Str.occurrences y x 0 y.length 1).isEmpty))
  | _, _, _ => False
def gInF : D2
  | d, .lst ds, R => flatD d = true ∧ ds.all flatD = true ∧ R (.bl (inF d ds))
  | d, .tup ds, R => flatD d = true ∧ ds.all flatD = true ∧ R (.bl (inF d ds))
  | _, _, _ => False
def gInD : D2
  | d, .lst ds, R => okD d = true ∧ okD (.lst ds) = true ∧ R (.bl (inF d ds))
  | _, _, _ => False
def gIn : D2
  | d, .lst ds, R => (flatD d = true ∧ ds.all flatD = true ∨ okD d = true ∧ okD (.lst ds) = true) ∧ R (.bl (inF d ds))
  | d, .tup ds, R => flatD d = true ∧ ds.all flatD = true ∧ R (.bl (inF d ds))
  | .str x, .str y, R => R (.bl (!(Builtin.Str.occurrences y x 0 y.length 1).isEmpty))
  | _, _, _ => False
def negB (g : D2) : D2 := fun d e R => g d e fun z => ∃ b, z = .bl b ∧ R (.bl (!b))
theorem opd_inS : OpD X F (fun x y H Q => ∃ i j, x = .str i ∧ y = .str j ∧ Q (.bl (!(Builtin.Str.occurrences j i 0 j.length 1).isEmpty)) H) gInS := by
  intro ρ σ H G dx dy x y R Q E rx ry h k
  cases dx with
  | str i => cases dy with
    | str j =>
      cases rx
      cases ry
      exact ⟨i, j, rfl, rfl, k _ h _ H G E (Same.refl G) .rfl (.bl _)⟩
    | _ => exact h.elim
  | _ => cases dy <;> exact h.elim
theorem opd_notInS : OpD X F (fun x y H Q => ∃ i j, x = .str i ∧ y = .str j ∧ Q (.bl (!(!(Builtin.Str.occurrences j i 0 j.length 1).isEmpty))) H) (negB gInS) := by
  intro ρ σ H G dx dy x y R Q E rx ry h k
  cases dx with
  | str i => cases dy with
    | str j =>
      cases rx
      cases ry
      obtain ⟨b, e, q⟩ := h
      cases e
      exact ⟨i, j, rfl, rfl, k _ q _ H G E (Same.refl G) .rfl (.bl _)⟩
    | _ => exact h.elim
  | _ => cases dy <;> exact h.elim
theorem opd_inF : OpD X F (rIn X.K false) gInF := by
  intro ρ σ H G dx dy x y R Q E rx ry h k
  cases dy with
  | lst ds =>
    cases ry with
    | lst hy _ ry =>
      refine ⟨_, _, rfl, .inl (.inl (.inl (E.sub _ _ hy))), rx.flat h.1, ry.flat h.2.1, ?_⟩
      rw [if_neg Bool.false_ne_true, Rps.inV rx h.1 ry h.2.1]
      exact k _ h.2.2 _ H G E (Same.refl G) .rfl (.bl _)
  | tup ds =>
    cases ry with
    | tup hy _ ry =>
      refine ⟨_, _, rfl, .inr (Same.seqT E.sub hy), rx.flat h.1, ry.flat h.2.1, ?_⟩
      rw [if_neg Bool.false_ne_true, Rps.inV rx h.1 ry h.2.1]
      exact k _ h.2.2 _ H G E (Same.refl G) .rfl (.bl _)
  | _ => exact h.elim
theorem opd_notInF : OpD X F (rIn X.K true) (negB gInF) := by
  intro ρ σ H G dx dy x y R Q E rx ry h k
  cases dy with
  | lst ds =>
    cases ry with
    | lst hy _ ry =>
      obtain ⟨h1, h2, b, e, q⟩ := h
      cases e
      refine ⟨_, _, rfl, .inl (.inl (.inl (E.sub _ _ hy))), rx.flat h1, ry.flat h2, ?_⟩
      rw [if_pos rfl, Rps.inV rx h1 ry h2]
      exact k _ q _ H G E (Same.refl G) .rfl (.bl _)
  | tup ds =>
    cases ry with
    | tup hy _ ry =>
      obtain ⟨h1, h2, b, e, q⟩ := h
      cases e
      refine ⟨_, _, rfl, .inr (Same.seqT E.sub hy), rx.flat h1, ry.flat h2, ?_⟩
      rw [if_pos rfl, Rps.inV rx h1 ry h2]
      exact k _ q _ H G E (Same.refl G) .rfl (.bl _)
  | _ => exact h.elim
theorem any_pyDs (d : D) : ∀ ds : List D, (pyDs ds).any (fun z => PyData.eqv z (pyD d)) = inF d ds
  | [] => rfl
  | e :: ds => by
    have ih := any_pyDs d ds
    unfold inF at *
    rw [pyDs, List.any_cons, List.any_cons, ih]
    rfl
theorem opd_inD : OpD X F (rInD X.K) gInD := by
  intro ρ σ H G dx dy x y R Q E rx ry h k
  cases dy with
  | lst ds =>
    have q := k _ h.2.2 (.bl _) H G E (Same.refl G) .rfl (.bl _)
    refine ⟨_, pyDs ds, rx.dp E.sub _ (lay_ok h.1), ?_, h.1, ?_, ?_⟩
    · have z := ry.dp E.sub _ (lay_ok h.2.1)
      rw [pyD] at z
      exact z
    · have z := h.2.1
      unfold okD at z
      rw [pyD] at z
      exact z
    · rw [any_pyDs]
      exact q
  | _ => exact h.elim
theorem opd_notInD : OpD X F (rNotInD X.K) (negB gInD) := by
  intro ρ σ H G dx dy x y R Q E rx ry h k
  cases dy with
  | lst ds =>
    obtain ⟨h1, h2, b, e, q⟩ := h
    cases e
    have q := k _ q (.bl _) H G E (Same.refl G) .rfl (.bl _)
    refine ⟨_, pyDs ds, rx.dp E.sub _ (lay_ok h1), ?_, h1, ?_, ?_⟩
    · have z := ry.dp E.sub _ (lay_ok h2)
      rw [pyD] at z
      exact z
    · have z := h2
      unfold okD at z
      rw [pyD] at z
      exact z
    · rw [any_pyDs]
      exact q
  | _ => exact h.elim
abbrev rInAll (K : PySem.W.Frag) : R2 := fun x y H Q => rIn K false x y H Q ∨ (rInD K x y H Q ∨ (∃ i j, x = .str i ∧ y = .str j ∧ Q (.bl (!(Builtin.Str.occurrences j i 0 j.length 1).isEmpty)) H))
abbrev rNotInAll (K : PySem.W.Frag) : R2 := fun x y H Q => rIn K true x y H Q ∨ (rNotInD K x y H Q ∨ (∃ i j, x = .str i ∧ y = .str j ∧ Q (.bl (!(!(Builtin.Str.occurrences j i 0 j.length 1).isEmpty))) H))
theorem opr_in (hu : X.A.units + 65 < cLine) : OpR X (compareOp .In) (rInAll X.K) := op_in_seq.or ((op_inD hu).or op_in_str)
theorem opr_notIn (hu : X.A.units + 65 < cLine) : OpR X (compareOp .NotIn) (rNotInAll X.K) := op_notIn_seq.or ((op_notInD hu).or op_notIn_str)
theorem opd_in : OpD X F (rInAll X.K) gIn := by
  refine opd_or (g' := fun x y R => gInD x y R ∨ gInS x y R) opd_inF (opd_or opd_inD opd_inS fun _ _ _ q => q) fun x y R h => ?_
  cases y with
  | lst ds =>
    have h : (flatD x = true ∧ ds.all flatD = true ∨ okD x = true ∧ okD (.lst ds) = true) ∧ R (.bl (inF x ds)) := by cases x <;> exact h
    rcases h with ⟨h1 | h1, h2⟩
    · exact .inl (by cases x <;> exact ⟨h1.1, h1.2, h2⟩)
    · exact .inr (.inl (by cases x <;> exact ⟨h1.1, h1.2, h2⟩))
  | tup ds => exact .inl (by cases x <;> exact h)
  | str z => cases x <;> first | exact .inr (.inr h) | exact h.elim
  | _ => cases x <;> exact h.elim
theorem opd_notIn : OpD X F (rNotInAll X.K) (negB gIn) := by
  refine opd_or (g' := fun x y R => negB gInD x y R ∨ negB gInS x y R) opd_notInF (opd_or opd_notInD opd_notInS fun _ _ _ q => q) fun x y R h => ?_
  cases y with
  | lst ds =>
    have h : (flatD x = true ∧ ds.all flatD = true ∨ okD x = true ∧ okD (.lst ds) = true) ∧ ∃ b, D.bl (inF x ds) = .bl b ∧ R (.bl (!b)) := by cases x <;> exact h
    rcases h with ⟨h1 | h1, h2⟩
    · exact .inl (by cases x <;> exact ⟨h1.1, h1.2, h2⟩)
    · exact .inr (.inl (by cases x <;> exact ⟨h1.1, h1.2, h2⟩))
  | tup ds => exact .inl (by cases x <;> exact h)
  | str z => cases x <;> first | exact .inr (.inr h) | exact h.elim
  | _ => cases x <;> exact h.elim
/-- is None, is True, is False -/
def isNonD : D → Bool
  | .non => true
  | _ => false
def gIs : D2
  | d, .non, R => R (.bl (isNonD d))
  | .bl a, .bl b, R => R (.bl (decide (a = b)))
  | _, _, _ => False
abbrev rIsAll : R2 := fun x y H Q => (y = .non ∧ Q (.bl (decide (x = .non))) H) ∨ rIsB x y H Q
abbrev rIsNotAll : R2 := fun x y H Q => (y = .non ∧ Q (.bl (!decide (x = .non))) H) ∨ rNotB x y H Q
theorem opr_is : OpR X (compareOp .Is) rIsAll := op_isN.or op_isBl
theorem opr_isNot : OpR X (compareOp .IsNot) rIsNotAll := op_notN.or op_notBl
theorem Rp.non_iff {K : PySem.W.Frag} {G : Hp} {d : D} {v : V} (h : Rp K G d v) : decide (v = .non) = isNonD d := by
  cases h <;> first | rfl | exact decide_eq_false (fun z => by cases z)
theorem opd_is : OpD X F rIsAll gIs := by
  intro ρ σ H G dx dy x y R Q E rx ry h k
  cases dy with
  | non =>
    cases ry
    have h : R (.bl (isNonD dx)) := by cases dx <;> exact h
    exact .inl ⟨rfl, by rw [rx.non_iff]; exact k _ h _ H G E (Same.refl G) .rfl (.bl _)⟩
  | bl b => cases dx with
    | bl a =>
      cases rx
      cases ry
      exact .inr ⟨a, b, rfl, rfl, k _ h _ H G E (Same.refl G) .rfl (.bl _)⟩
    | _ => exact h.elim
  | _ => cases dx <;> exact h.elim
theorem opd_isNot : OpD X F rIsNotAll (negB gIs) := by
  intro ρ σ H G dx dy x y R Q E rx ry h k
  cases dy with
  | non =>
    cases ry
    have h : R (.bl (!(isNonD dx))) := by
      have h' : ∃ b, D.bl (isNonD dx) = .bl b ∧ R (.bl (!b)) := by cases dx <;> exact h
      obtain ⟨b, e, q⟩ := h'
      cases e
      exact q
    exact .inl ⟨rfl, by rw [rx.non_iff]; exact k _ h _ H G E (Same.refl G) .rfl (.bl _)⟩
  | bl b => cases dx with
    | bl a =>
      cases rx
      cases ry
      obtain ⟨b', e, q⟩ := h
      cases e
      exact .inr ⟨a, b, rfl, rfl, k _ q _ H G E (Same.refl G) .rfl (.bl _)⟩
    | _ => exact h.elim
  | _ => cases dx <;> exact h.elim
end
end DL
namespace DL
open PySem PySem.Spec PyProof.Rows L2

/-! ### promises over data -/
/-- what a def promises: from the data of its arguments, what is wanted of its answer, of its errors -/
abbrev Φ := List D → (D → Prop) → (Str → Prop) → Prop
def ArgsOk (K : PySem.W.Frag) (F : Fx) : Bool → List V → List D → Prop
  | true, vs, ds => ∃ a ws, vs = .ref a :: ws ∧ F.cup = some a ∧ F.G0 a = none ∧ Rps K F.G0 ds ws
  | false, vs, ds => F.cup = none ∧ Rps K F.G0 ds vs
def nV (cu : Bool) (ds : List D) : Nat := if cu then ds.length + 1 else ds.length
theorem ArgsOk.length {K : PySem.W.Frag} {F : Fx} : ∀ {cu : Bool} {vs : List V} {ds : List D}, ArgsOk K F cu vs ds → vs.length = nV cu ds
  | true, vs, ds, ⟨a, ws, e, _, _, r⟩ => by subst e; rw [List.length_cons, ← r.length]; rfl
  | false, vs, ds, ⟨_, r⟩ => r.length.symm
def spD (K : PySem.W.Frag) (mg : Str → Option Value) (cu : Bool) (n : Nat) (φ : Φ) : Sp := fun vs H Q E => ∃ (F : Fx) (ds : List D) (R : D → Prop) (Z : Str → Prop), F.H0 = H ∧ EnvOk K F [] [] H F.G0 ∧ ArgsOk K F cu vs ds ∧ nV cu ds = n ∧ φ ds R Z ∧
  (∀ d, R d → ∀ v H' G', EnvOk K F [] [] H' G' → Rp K G' d v → Q v H') ∧ (∀ (c : Str) (a : Addr), Z c → mg c = some (.ref a) → ∀ H' G', EnvOk K F [] [] H' G' → E (.ref a) none H')
theorem spD.len {K : PySem.W.Frag} {mg : Str → Option Value} {cu : Bool} {n : Nat} {φ : Φ} {vs : List V} {H : Hp} {Q : VK} {E : XK} (h : spD K mg cu n φ vs H Q E) : vs.length = n := by
  obtain ⟨F, ds, R, Z, _, _, a, e, _⟩ := h
  rw [a.length, e]
/-- a def as the layer knows it -/
abbrev FnD (P : Program) (w : World) (K : PySem.W.Frag) (mg : Str → Option Value) (base : Heap) (k : Nat) (f : Addr) (fd : FuncData) (ps : List Str) (cu : Bool) (φ : Φ) : Prop := FnOk P w K mg base (L2.CX P w) k f fd ps (spD K mg cu ps.length φ)

section
variable {X : Cx} {F : Fx} {E : EX} {a b c e : Expr} {es : List Expr} {ta tb tc : DW D} {ts : DW (List D)} {tA tB : DW Bool} {p pos : Pos} {k : Nat} {f : Addr} {fd : FuncData} {ps : List Str} {φ : Φ} {x : Str}
theorem EnvOk.entry {K : PySem.W.Frag} {F : Fx} {ρ : List S} {σ : St} {H G : Hp} (E : EnvOk K F ρ σ H G) : EnvOk K ⟨H, G, none⟩ [] [] H G :=
  ⟨rfl, E.sub, Same.refl G, fun _ _ h => h, fun _ _ h _ => h, (fun _ h => by cases h), (fun _ h => by cases h), (fun i s e => by simp at e), (fun i j a s t _ e => by simp at e)⟩
theorem EnvOk.entryC {K : PySem.W.Frag} {F : Fx} {ρ : List S} {σ : St} {H G : Hp} {a : Addr} (E : EnvOk K F ρ σ H G) (c : CupAt H a) : EnvOk K ⟨H, G, some a⟩ [] [] H G :=
  ⟨rfl, E.sub, Same.refl G, fun _ _ h => h, fun _ _ h _ => h, (fun _ h => by cases h; exact c), (fun _ h => by cases h; obtain ⟨x, y, e, _⟩ := c; show H a ≠ none; rw [e]; simp), (fun i s e => by simp at e), (fun i j a s t _ e => by simp at e)⟩
theorem keep_call {K : PySem.W.Frag} {ρ : List S} {σ : St} {H H' G G' : Hp} {c : Option Addr} (hc : ∀ a, c = some a → ∃ i : Nat, ρ[i]? = some S.cup ∧ σ[i]? = some (some (V.ref a))) (E' : EnvOk K ⟨H, G, c⟩ [] [] H' G') : Keep ρ σ H H' G G' :=
  ⟨fun b o h n => E'.keep b o h fun z => by
    obtain ⟨i, e1, e2⟩ := hc b z
    exact n i e1 e2, fun b h => by
    by_cases z : c = some b
    · obtain ⟨x, y, e, _⟩ := E'.cupk b z
      rw [e]
      simp
    · cases e : H b with
      | none => exact absurd e h
      | some o => rw [E'.keep b o e z]; simp, E'.gf⟩
def dCall (φ : Φ) (ts : DW (List D)) : DW D := fun ρ R Z => ts ρ (fun ds => φ ds R Z) Z
/-- f(..): an own def -/
theorem e_call (G : FnD X.prog X.w X.K X.mg X.base k f fd ps false φ) (hr : Room k X.A) (hg : Gl X x) (hm : X.mg x = some (.ref f)) (hk : PySem.W.keepIn X.K (.ref f) = true) (hb : Binds X.K fd ps []) (hx : ∀ σ, PassesAt (L2.CX X.prog X.w) X σ (E σ))
    (hl : (e :: es).length = ps.length) (hlen : ∀ ρ R Z, ts ρ R Z → ts ρ (fun ds => R ds ∧ ds.length = (e :: es).length) Z)
    (ha : PA X (e :: es) (lA X F E ts)) (hdb : (x == ("__debug__" : Str)) = false := by decide) (he : starEach (e :: es) X.env = (false, eval e X.env) :: starEach es X.env := by rfl) (hpl : (backTo pos (starEach es X.env)).any (·.1) = false := by rfl) :
    PE X (.Call (.Name x p) (e :: es) [] pos) (lE X F E (dCall φ ts)) := (pe_callS G hr hg hm hk hb hx ha hdb he hpl).imp fun σ H Q ⟨ρ, G0, R, Z, E0, h, kk, z⟩ => by
  refine ⟨ρ, G0, _, Z, E0, hlen _ _ _ h, fun ds hds vs H1 G1 E1 s1 k1 rs => ?_, z⟩
  have none_ : ∀ a, (none : Option Addr) = some a → ∃ i : Nat, ρ[i]? = some S.cup ∧ σ[i]? = some (some (V.ref a)) := fun _ h => by cases h
  refine ⟨⟨H1, G1, none⟩, ds, _, _, rfl, E1.entry, ⟨rfl, rs⟩, ?_, hds.1, fun d hd v H2 G2 E2 r => ?_, fun c a hc hm H2 G2 E2 => ?_⟩
  · show ds.length = ps.length
    rw [hds.2, hl]
  · exact kk d hd v H2 G2 (E1.after none_ E2) (s1.trans E2.g0) (k1.trans (keep_call none_ E2)) r
  · exact z c a hc hm H2 G2 (E1.after none_ E2) (s1.trans E2.g0)
theorem len_nil : ∀ ρ R Z, dNil ρ R Z → dNil ρ (fun ds => R ds ∧ ds.length = 0) Z := fun _ _ _ h => ⟨h, rfl⟩

/-! ### builtins by name -/
abbrev DA := List D → (D → Prop) → Prop
def CallD (X : Cx) (F : Fx) (r : List V → Hp → VK → Prop) (g : DA) : Prop := ∀ (ρ : List S) (σ : St) (H G : Hp) (ds : List D) (vs : List V) (R : D → Prop) (Q : VK), EnvOk X.K F ρ σ H G → Rps X.K G ds vs → g ds R →
  (∀ d, R d → ∀ v H' G', EnvOk X.K F ρ σ H' G' → Same G G' → Keep ρ σ H H' G G' → Rp X.K G' d v → Q v H') → r vs H Q
def dArgs (g : DA) (ts : DW (List D)) : DW D := fun ρ R Z => ts ρ (fun ds => g ds R) Z
theorem args_lift {r : List V → Hp → VK → Prop} {g : DA} (hg : CallD X F r g) : ∀ σ H Q, lE X F E (dArgs g ts) σ H Q → tCB r (lA X F E ts) σ H Q := fun σ H Q ⟨ρ, G, R, Z, E0, h, k, z⟩ =>
  ⟨ρ, G, _, Z, E0, h, fun ds hds vs H1 G1 E1 s1 k1 rs => hg ρ σ H1 G1 ds vs R Q E1 rs hds fun d hd v H2 G2 E2 s2 k2 r => k d hd v H2 G2 E2 (s1.trans s2) (k1.trans k2) r, z⟩
theorem e_callB {id : String} {r : List V → Hp → VK → Prop} {g : DA} (hc : CallR X (.builtin id) r) (hd : CallD X F r g) (hg : Gl X x) (hm : X.mg x = none) (hv : bootBuiltins x = some (.builtin id)) (ha : PA X (e :: es) (lA X F E ts)) (hn : x ≠ "__name__" := by decide) (hdb : (x == ("__debug__" : Str)) = false := by decide)
    (he : starEach (e :: es) X.env = (false, eval e X.env) :: starEach es X.env := by rfl) (hpl : (backTo pos (starEach es X.env)).any (·.1) = false := by rfl) : PE X (.Call (.Name x p) (e :: es) [] pos) (lE X F E (dArgs g ts)) :=
  (pe_callB hc hg hm hv ha hn hdb he hpl).imp (args_lift hd)
theorem e_callTy {T : String} {r : List V → Hp → VK → Prop} {g : DA} (hc : CallR X (.type T) r) (hd : CallD X F r g) (hg : Gl X x) (hm : X.mg x = none) (hv : bootBuiltins x = some (.type T)) (ha : PA X (e :: es) (lA X F E ts)) (hn : x ≠ "__name__" := by decide) (hdb : (x == ("__debug__" : Str)) = false := by decide)
    (he : starEach (e :: es) X.env = (false, eval e X.env) :: starEach es X.env := by rfl) (hpl : (backTo pos (starEach es X.env)).any (·.1) = false := by rfl) : PE X (.Call (.Name x p) (e :: es) [] pos) (lE X F E (dArgs g ts)) :=
  (pe_callTy hc hg hm hv ha hn hdb he hpl).imp (args_lift hd)
theorem CallD.or {r r' : List V → Hp → VK → Prop} {g g' h : DA} (a : CallD X F r g) (b : CallD X F r' g') (k : ∀ ds R, h ds R → g ds R ∨ g' ds R) : CallD X F (fun xs H Q => r xs H Q ∨ r' xs H Q) h := by
  intro ρ σ H G ds vs R Q E rs hh kk
  rcases k _ _ hh with q | q
  · exact .inl (a ρ σ H G ds vs R Q E rs q kk)
  · exact .inr (b ρ σ H G ds vs R Q E rs q kk)
/-- isinstance(x, T), T int, bool, str, tuple, list, dict -/
def tyD : D → String
  | .non => "NoneType"
  | .bl _ => "bool"
  | .int _ => "int"
  | .str _ => "str"
  | .tup _ => "tuple"
  | .lst _ => "list"
  | .dk _ _ => "dict"
  | .dt _ _ => "dict"
  | .set _ => "set"
  | .ref _ => ""
theorem Rp.ty {K : PySem.W.Frag} {G H : Hp} {d : D} {v : V} (s : Same G H) (h : Rp K G d v) (n : tyD d ≠ "") : TyX K H v (.type (tyD d)) := by
  cases h with
  | non => exact .base .non
  | bl b => exact .base (.bl b)
  | int i => exact .base (.int i)
  | str x => exact .base (.str x)
  | ref a => exact absurd rfl n
  | tup h _ r =>
    rcases h with ⟨o, h, _⟩ | ⟨o, its, n, h, c, _⟩
    · exact .fTuple (s _ _ h)
    · exact .kTuple h c
  | lst h _ r => exact .base (.lst (s _ _ h))
  | dk h _ _ => exact .base (.dK (s _ _ h))
  | dt h _ _ => exact .base (.dT (s _ _ h))
  | set h _ => exact .set (s _ _ h)
def isTy (T : String) (d : D) : Bool := tyD d == T || (T == "int" && tyD d == "bool")
def gIsi (T : String) : DA
  | [d], R => tyD d ≠ "" ∧ R (.bl (isTy T d))
  | _, _ => False
theorem kit_tab : ∀ s ∈ ["NoneType", "bool", "int", "str", "tuple", "list", "dict", "set"], ∀ T ∈ ["int", "bool", "str", "tuple", "list"], kitB s T = some (s == T || (T == "int" && s == "bool")) := by decide +kernel
theorem tyD_mem {d : D} (n : tyD d ≠ "") : tyD d ∈ ["NoneType", "bool", "int", "str", "tuple", "list", "dict", "set"] := by
  cases d <;> first
    | exact absurd rfl n
    | simp [tyD]
theorem kit_all {K : PySem.W.Frag} {T : String} (hT : T ∈ ["int", "bool", "str", "tuple", "list"]) {d : D} (n : tyD d ≠ "") : PySem.W.kitOne K (.type (tyD d)) (.type T) = some (isTy T d) :=
  kit_ty (kit_tab _ (tyD_mem n) _ hT)
def dIsi (T : String) (ta : DW D) : DW D := fun ρ R Z => ta ρ (fun d => tyD d ≠ "" ∧ R (.bl (isTy T d))) Z
theorem e_isi {T : String} {y : Str} {q : Pos} (hT : T ∈ ["int", "bool", "str", "tuple", "list"]) (hg : Gl X "isinstance") (hm : X.mg "isinstance" = none) (hg2 : Gl X y) (hm2 : X.mg y = none) (hv2 : bootBuiltins y = some (.type T)) (ha : PE X a (lE X F E ta))
    (hn : y ≠ "__name__" := by decide) (hdb : (y == ("__debug__" : Str)) = false := by decide)
    (hs : starEach (a :: [Expr.Name y q]) X.env = (false, eval a X.env) :: starEach [Expr.Name y q] X.env := by rfl) (hpl : (backTo pos (starEach [Expr.Name y q] X.env)).any (·.1) = false := by rfl) :
    PE X (.Call (.Name "isinstance" p) [a, .Name y q] [] pos) (lE X F E (dIsi T ta)) :=
  (pe_callB call_isi hg hm (by decide +kernel) (pa_cons ha (pa_cons (pe_bltn (v := .ty T) hg2 hm2 hv2 rfl hn hdb) pa_nil) hs) (by decide) (by decide) hs hpl).imp fun σ H Q ⟨ρ, G, R, Z, E0, h, k, z⟩ => by
    refine ⟨ρ, G, _, Z, E0, h, fun d hd v H1 G1 E1 s1 k1 r => ?_, z⟩
    exact ⟨v, .ty T, .type (tyD d), .type T, isTy T d, rfl, .ty T, r.ty E1.sub hd.1, kit_all hT hd.1, k _ hd.2 _ H1 G1 E1 s1 k1 (.bl _)⟩
/-- len -/
def gLen : DA
  | [.tup xs], R => R (.int xs.length)
  | [.lst xs], R => R (.int xs.length)
  | [.str z], R => z.length ≤ sizeLine ∧ R (.int z.length)
  | _, _ => False
theorem cd_len : CallD X F (fun xs H Q => ∃ x n, xs = [x] ∧ LenV X.K x H n ∧ Q (.int n) H) gLen := by
  intro ρ σ H G ds vs R Q E rs h k
  match ds, rs, h with
  | [.tup xs], .cons (.tup hx _ r) .nil, h => exact ⟨_, _, rfl, .inr ⟨_, Same.seqT E.sub hx, r.length⟩, k _ h _ H G E (Same.refl G) .rfl (.int _)⟩
  | [.lst xs], .cons (.lst hx _ r) .nil, h => exact ⟨_, _, rfl, .inl ⟨_, .inl (.inl (E.sub _ _ hx)), r.length⟩, k _ h _ H G E (Same.refl G) .rfl (.int _)⟩
  | [.str z], .cons (.str _) .nil, h => exact ⟨_, _, rfl, ⟨h.1, rfl⟩, k _ h.2 _ H G E (Same.refl G) .rfl (.int _)⟩
  | [], _, h => exact h.elim
  | [.non], _, h => exact h.elim
  | [.bl _], _, h => exact h.elim
  | [.int _], _, h => exact h.elim
  | [.dk _ _], _, h => exact h.elim
  | [.dt _ _], _, h => exact h.elim
  | [.set _], _, h => exact h.elim
  | [.ref _], _, h => exact h.elim
  | d :: e :: r, _, h => cases d <;> exact h.elim
/-! ### statements -/
variable {st : Stmt} {sts : List Stmt} {t u : DS}
def dNext : DS := fun B ρ => B.nx ρ
def dSeq (t u : DS) : DS := fun B ρ => t { B with nx := u B } ρ
theorem ss_nil : PSs X [] (lS X F E dNext) := pss_nil.imp fun D σ H ⟨ρ, G, B, E0, h, e⟩ => e.nx ρ h σ H G E0 (Same.refl G)
theorem ss_one (h1 : PS X st (lS X F E t)) : PSs X [st] (lS X F E t) := pss_one h1
theorem Ends'.to {G : Hp} {B : DE} {D : Ends} (e : Ends' X F E G B D) {nx : List S → Prop} {nx' : St → Hp → Prop} (h : ∀ ρ, nx ρ → ∀ σ H G', EnvOk X.K F ρ σ H G' → Same G G' → nx' σ H) : Ends' X F E G { B with nx := nx } { D with nx := nx' } := ⟨h, e.rt, e.bk, e.ct, e.ex⟩
theorem ss_cons (h1 : PS X st (lS X F E t)) (h2 : PSs X sts (lS X F E u)) : PSs X (st :: sts) (lS X F E (dSeq t u)) := (pss_cons h1 h2).imp fun D σ H ⟨ρ, G, B, E0, h, e⟩ =>
  ⟨ρ, G, _, E0, h, e.to fun ρ' h' σ' H' G' E' s' => ⟨ρ', G', B, E', h', e.mono s'⟩⟩
/-- x = e -/
def dSet (i : Nat) (t : DW D) : DS := fun B ρ => t ρ (fun d => B.nx (ρ.set i (.im d))) (B.ex ρ)
theorem s_set (i : Nat) {x : Str} {pos' : Pos} (hN : X.N.Nodup) (hi : X.N[i]? = some x) (hx : Loc X.env.scope x) (he : PE X e (lE X F E ta)) (hs : swapsWith e (some (.Name x pos')) pos.line X.env = pure false := by rfl) (hf : X.fn x = true ∨ X.env.scope.names.lookup x = some .local := by first | exact .inl rfl | exact .inr rfl | assumption) :
    PS X (.Assign [.Name x pos'] e pos) (lS X F E (dSet i ta)) := (ps_set hN hi hx he hs hf).imp fun D σ H ⟨ρ, G, B, E0, h, e⟩ =>
  ⟨ρ, G, _, _, E0, h, fun d hd v H1 G1 E1 s1 k1 r => e.nx _ hd _ H1 G1 (E1.setIm r) s1, e.ex ρ σ⟩
/-- x = a new list of the def's own -/
def dSetF (i : Nat) (t : DW (List D)) : DS := fun B ρ => t ρ (fun ds => B.nx (ρ.set i (.ol ds))) (B.ex ρ)
theorem s_setF (i : Nat) {x : Str} {pos' : Pos} (hN : X.N.Nodup) (hi : X.N[i]? = some x) (hx : Loc X.env.scope x) (he : PE X e (lF X F E ts)) (hs : swapsWith e (some (.Name x pos')) pos.line X.env = pure false := by rfl) (hf : X.fn x = true ∨ X.env.scope.names.lookup x = some .local := by first | exact .inl rfl | exact .inr rfl | assumption) :
    PS X (.Assign [.Name x pos'] e pos) (lS X F E (dSetF i ts)) := (ps_set hN hi hx he hs hf).imp fun D σ H ⟨ρ, G, B, E0, h, e⟩ =>
  ⟨ρ, G, _, _, E0, h, fun ds hds v H1 G1 E1 s1 k1 r => by
    obtain ⟨a, vs, rfl, hs, ga, h0, ha, hz, rs, no⟩ := r
    exact e.nx _ hds _ H1 G1 (E1.setS ⟨a, vs, rfl, ga, h0, ha, hz, rs⟩ fun a' _ q j t _ e w => by cases q; exact no j t e w) s1, e.ex ρ σ⟩
def dDrop (t : DW D) : DS := fun B ρ => t ρ (fun _ => B.nx ρ) (B.ex ρ)
theorem s_expr (he : PE X e (lE X F E ta)) (hs : swapsWith e none pos.line X.env = pure false := by rfl) : PS X (.Expr e pos) (lS X F E (dDrop ta)) := (ps_expr he hs).imp fun D σ H ⟨ρ, G, B, E0, h, e⟩ =>
  ⟨ρ, G, _, _, E0, h, fun d hd v H1 G1 E1 s1 k1 r => e.nx _ hd _ H1 G1 E1 s1, e.ex ρ σ⟩
def dRet (t : DW D) : DS := fun B ρ => t ρ B.rt (B.ex ρ)
theorem s_ret (he : PE X e (lE X F E ta)) : PS X (.Return (some e) pos) (lS X F E (dRet ta)) := (ps_ret he).imp fun D σ H ⟨ρ, G, B, E0, h, e⟩ =>
  ⟨ρ, G, _, _, E0, h, fun d hd v H1 G1 E1 s1 k1 r => e.rt d hd v H1 G1 E1.nil r, e.ex ρ σ⟩
def dRetN : DS := fun B _ => B.rt .non
theorem s_retN : PS X (.Return none pos) (lS X F E dRetN) := ps_retN.imp fun D σ H ⟨ρ, G, B, E0, h, e⟩ => e.rt _ h _ H G E0.nil .non
def dIfS (c : DW Bool) (t u : DS) : DS := fun B ρ => c ρ (fun b => if b = true then t B ρ else u B ρ) (B.ex ρ)
theorem s_if {as bs : List Stmt} (hc : PT X c (lT X F E tA)) (ha : PSs X as (lS X F E t)) (hb : PSs X bs (lS X F E u)) : PS X (.If c as bs pos) (lS X F E (dIfS tA t u)) := (ps_if hc ha hb).imp fun D σ H ⟨ρ, G, B, E0, h, e⟩ => by
  refine ⟨ρ, G, _, _, E0, h, fun b hb H1 G1 E1 s1 k1 => ?_, e.ex ρ σ⟩
  cases b with
  | true => rw [if_pos rfl] at hb ⊢; exact ⟨ρ, G1, B, E1, hb, e.mono s1⟩
  | false => rw [if_neg Bool.false_ne_true] at hb ⊢; exact ⟨ρ, G1, B, E1, hb, e.mono s1⟩
theorem s_pass : PS X (.Pass pos) (lS X F E dNext) := ps_pass.imp fun D σ H ⟨ρ, G, B, E0, h, e⟩ => e.nx ρ h σ H G E0 (Same.refl G)
theorem s_break : PS X (.Break pos) (lS X F E (fun B ρ => B.bk ρ)) := ps_break.imp fun D σ H ⟨ρ, G, B, E0, h, e⟩ => e.bk ρ h σ H G E0 (Same.refl G)
theorem s_continue : PS X (.Continue pos) (lS X F E (fun B ρ => B.ct ρ)) := ps_continue.imp fun D σ H ⟨ρ, G, B, E0, h, e⟩ => e.ct ρ h σ H G E0 (Same.refl G)
/-- raise X('..') -/
def dRaise (c : Str) : DS := fun B ρ => B.ex ρ c
theorem s_raise {c m : Str} {j : Nat} {p2 pos2 : Pos} {C : Addr} (hc : X.calm = true) (tk : Takes X (fun cls d σ H => E σ cls d H)) (hC : X.mg c = some (.ref C)) (mk : PMk X (.Call (.Name c p) [.Constant (.str m) j p2] [] pos) (fun _ H Q => Q (.ref C) none H)) :
    PS X (.Raise (some (.Call (.Name c p) [.Constant (.str m) j p2] [] pos)) none pos2) (lS X F E (dRaise c)) := (ps_raise hc tk mk).imp fun D σ H ⟨ρ, G, B, E0, h, e⟩ => e.ex ρ σ c C h hC H G E0 (Same.refl G)
end

/-! ### a def -/
section
variable {P : Program} {w : World} {K : PySem.W.Frag} {mg : Str → Option Value} {base : Heap} {x qual : Str} {st : Stmt} {f : Addr} {fd : FuncData} {N ps : List Str} {k : Nat} {φ : Φ}
/-- the context of a body of a def -/
structure Body (X : Cx) (E : EX) (K : PySem.W.Frag) (mg : Str → Option Value) (k : Nat) : Prop where
  room : Room k X.A
  pass : ∀ σ, PassesAt (L2.CX X.prog X.w) X σ (E σ)
  take : Takes X (fun cls d σ H => E σ cls d H)
def start' (n : Nat) (cu : Bool) (ds : List D) : List S := (if cu then [S.cup] else []) ++ ds.map .im ++ List.replicate (n - nV cu ds) .un
def ends (R : D → Prop) (Z : Str → Prop) : DE := ⟨fun _ => R .non, R, fun _ => False, fun _ => False, fun _ => Z⟩
theorem slots_start {K : PySem.W.Frag} {F : Fx} {H : Hp} : ∀ {ds : List D} {vs : List V}, Rps K F.G0 ds vs → ∀ (n i : Nat) (s : S), (ds.map S.im ++ List.replicate n .un)[i]? = some s → SlotOk K F H F.G0 s (vs.map some ++ List.replicate n none)[i]?
  | _, _, .nil, n, i, s, h => by
    simp only [List.map_nil, List.nil_append, List.getElem?_replicate] at h
    split at h
    · cases h; trivial
    · cases h
  | _, _, .cons r rs, n, 0, s, h => by
    simp at h
    subst h
    exact ⟨_, by simp, r⟩
  | _, _, .cons r rs, n, i + 1, s, h => by
    have := slots_start (H := H) rs n i s (by simpa using h)
    simpa using this
theorem start_ok {F : Fx} {H : Hp} {cu : Bool} {vs : List V} {ds : List D} (hH : F.H0 = H) (E : EnvOk K F [] [] H F.G0) (a : ArgsOk K F cu vs ds) (n : Nat) (hn : N.length = n) : EnvOk K F (start' n cu ds) (L2.start N vs) H F.G0 := by
  have lenA := a.length
  cases cu with
  | false =>
    obtain ⟨_, rs⟩ := a
    have ll := rs.length
    unfold start' L2.start
    simp only [Bool.false_eq_true, if_false, List.nil_append, nV] at *
    rw [hn, ← ll]
    refine ⟨by simp [ll], E.sub, E.g0, E.gf, E.keep, E.cupk, E.cup0, slots_start rs _, fun i j a s t _ e1 _ w1 => ?_⟩
    exfalso
    rw [List.getElem?_append] at e1
    split at e1
    · rw [List.getElem?_map] at e1
      cases q : ds[i]? with
      | none => rw [q] at e1; cases e1
      | some d => rw [q] at e1; cases e1; cases w1
    · rw [List.getElem?_replicate] at e1
      split at e1
      · cases e1; cases w1
      · cases e1
  | true =>
    obtain ⟨a, ws, rfl, hc, ga, rs⟩ := a
    have ll := rs.length
    unfold start' L2.start
    simp only [if_true, nV, List.length_cons, List.map_cons] at *
    rw [hn, ← ll]
    have im : ∀ (i : Nat) (s : S), ([S.cup] ++ List.map S.im ds ++ List.replicate (n - (ds.length + 1)) S.un)[i + 1]? = some s → s.own = true → False := fun i s e1 w1 => by
      have e1 : (List.map S.im ds ++ List.replicate (n - (ds.length + 1)) S.un)[i]? = some s := by simpa using e1
      rw [List.getElem?_append] at e1
      split at e1
      · rw [List.getElem?_map] at e1
        cases q : ds[i]? with
        | none => rw [q] at e1; cases e1
        | some d => rw [q] at e1; cases e1; cases w1
      · rw [List.getElem?_replicate] at e1
        split at e1
        · cases e1; cases w1
        · cases e1
    refine ⟨by simp [ll], E.sub, E.g0, E.gf, E.keep, E.cupk, E.cup0, fun i s e => ?_, fun i j a s t ne e1 e2 w1 w2 => ?_⟩
    · cases i with
      | zero =>
        simp at e
        subst e
        exact ⟨a, by simp, ga, .inr hc, E.cupk a hc⟩
      | succ i =>
        have := slots_start (H := H) rs (n - (ds.length + 1)) i s (by simpa using e)
        simpa using this
    · cases i with
      | zero => cases j with
        | zero => exact absurd rfl ne
        | succ j => exact (im j t e2 w2).elim
      | succ i => exact (im i s e1 w1).elim
/-- the context of a def's body -/
abbrev cxD (P : Program) (w : World) (K : PySem.W.Frag) (mg : Str → Option Value) (base : Heap) (N : List Str) (qual : Str) (scope : Scope) (f : Addr) (cd : Value) (A : Around) (outer : List Env) (s : Shared) (H : Hp) (E : XK) : Cx :=
  cxOf (L2.CX P w) P w K mg base N qual scope f cd A outer s H E
theorem D_ok {params : Arguments} {body : List Stmt} {scope : Scope} {cu : Bool} {t : DS} (Fd : FunD K x qual params body scope [] [] f fd) (sc : FnScope N ps scope)
    (hbody : ∀ (cd : Value) (A : Around) (outer : List Env) (s : Shared) (H : Hp) (E : XK) (F : Fx), Body (cxD P w K mg base N qual scope f cd A outer s H E) (fun _ => E) K mg k →
      PSs (cxD P w K mg base N qual scope f cd A outer s H E) body (lS (cxD P w K mg base N qual scope f cd A outer s H E) F (fun _ => E) t))
    (pure : ∀ ds R Z, nV cu ds = ps.length → φ ds R Z → t (ends R Z) (start' N.length cu ds)) : FnD P w K mg base (k + 1) f fd ps cu φ := by
  refine Fd.ok sc (fun vs H Q E h => h.len) fun cd A outer s H vs Q E hr h => ?_
  obtain ⟨F, ds, R, Z, hH, E0, ao, hn, hφ, hR, hZ⟩ := h
  have tk : Takes (cxD P w K mg base N qual scope f cd A outer s H E) (fun cls d σ H => (fun _ => E : EX) σ cls d H) := takes_of rfl rfl rfl rfl
  refine ⟨_, hbody cd A outer s H E F ⟨hr, fun σ => passAt tk σ, tk⟩, start' N.length cu ds, F.G0, ends R Z, start_ok hH E0 ao _ rfl, pure ds R Z hn hφ, ?_⟩
  refine ⟨fun ρ h σ H1 G1 E1 _ => ?_, fun d hd v H1 G1 E1 r => hR d hd v H1 G1 E1 r, fun _ h => h.elim, fun _ h => h.elim, fun ρ σ c a hc hm H1 G1 E1 _ => hZ c a hc hm H1 G1 E1.nil⟩
  exact hR _ h _ H1 G1 E1.nil .non
end
end DL
namespace DL
open PySem PySem.Spec PyProof.Rows L2

/-! ### targets -/
inductive Tg where
  | nm (i : Nat) | tp (is : List Nat)
def Tg.slots : Tg → List Nat
  | .nm i => [i]
  | .tp is => is
def setAll : List Nat → List D → List S → Option (List S)
  | [], [], ρ => some ρ
  | i :: is, d :: ds, ρ => setAll is ds (ρ.set i (.im d))
  | _, _, _ => none
def bindT : Tg → D → List S → (List S → Prop) → Prop
  | .nm i, d, ρ, k => k (ρ.set i (.im d))
  | .tp is, d, ρ, k => ∃ ds ρ', d = .tup ds ∧ setAll is ds ρ = some ρ' ∧ k ρ'
/-- slots changed outside the own ones -/
structure Sub (ρ2 : List S) (σ2 : St) (ρ : List S) (σ : St) (vs : List Nat) : Prop where
  len : ρ2.length = ρ.length
  lens : σ2.length = σ.length
  out : ∀ i : Nat, i ∉ vs → ρ2[i]? = ρ[i]? ∧ σ2[i]? = σ[i]?
  fr : ∀ (i : Nat) (s : S), i ∈ vs → ρ2[i]? = some s → s.own = false
theorem Sub.refl (ρ : List S) (σ : St) : Sub ρ σ ρ σ [] := ⟨rfl, rfl, fun _ _ => ⟨rfl, rfl⟩, fun _ _ h => by cases h⟩
theorem Sub.mono {ρ2 ρ : List S} {σ2 σ : St} {vs ws : List Nat} (h : Sub ρ2 σ2 ρ σ vs) (k : ∀ i ∈ vs, i ∈ ws) (n : ∀ (i : Nat) (s : S), i ∈ ws → ρ[i]? = some s → s.own = false) : Sub ρ2 σ2 ρ σ ws :=
  ⟨h.len, h.lens, fun i hi => h.out i fun z => hi (k i z), fun i s hi e => by
    by_cases z : i ∈ vs
    · exact h.fr i s z e
    · rw [(h.out i z).1] at e
      exact n i s hi e⟩
theorem Sub.trans {ρ3 ρ2 ρ : List S} {σ3 σ2 σ : St} {vs : List Nat} (a : Sub ρ3 σ3 ρ2 σ2 vs) (b : Sub ρ2 σ2 ρ σ vs) : Sub ρ3 σ3 ρ σ vs :=
  ⟨a.len.trans b.len, a.lens.trans b.lens, fun i hi => ⟨(a.out i hi).1.trans (b.out i hi).1, (a.out i hi).2.trans (b.out i hi).2⟩, a.fr⟩
section
variable {K : PySem.W.Frag} {F : Fx} {ρ ρ' ρ2 : List S} {σ σ' σ2 : St} {H H' H2 G G' G2 : Hp} {d : D} {v : V} {tg : Tg} {vs : List Nat}
theorem setAll_ok : ∀ {is : List Nat} {ds : List D} {ws : List V} {ρ ρ' : List S} {σ : St}, EnvOk K F ρ σ H G → Rps K G ds ws → setAll is ds ρ = some ρ' →
    is.length = ws.length ∧ EnvOk K F ρ' ((is.zip ws).foldl (fun σ p => σ.set p.1 (some p.2)) σ) H G ∧ (∀ i, i ∉ is → ρ'[i]? = ρ[i]? ∧ ((is.zip ws).foldl (fun σ p => σ.set p.1 (some p.2)) σ)[i]? = σ[i]?) ∧ ρ'.length = ρ.length ∧
    ((is.zip ws).foldl (fun σ p => σ.set p.1 (some p.2)) σ).length = σ.length ∧ ∀ (i : Nat) (s : S), i ∈ is → ρ'[i]? = some s → s.own = false := by
  intro is
  induction is with
  | nil =>
    intro ds ws ρ ρ' σ E r h
    cases r with
    | nil =>
      cases h
      exact ⟨rfl, E, fun _ _ => ⟨rfl, rfl⟩, rfl, rfl, fun _ _ h => by cases h⟩
    | cons _ _ => cases h
  | cons i is ih =>
    intro ds ws ρ ρ' σ E r h
    cases r with
    | nil => cases h
    | cons r1 rs =>
      obtain ⟨h1, h2, h3, h4, h5, h6⟩ := ih (E.setIm (i := i) r1) rs h
      refine ⟨by simp [h1], h2, fun j hj => ?_, by rw [h4, List.length_set], by rw [List.zip_cons_cons, List.foldl_cons, h5, List.length_set], fun j s hj e => ?_⟩
      · have ne : i ≠ j := fun z => hj (by rw [z]; exact List.mem_cons_self)
        obtain ⟨a, b⟩ := h3 j fun z => hj (List.mem_cons_of_mem _ z)
        rw [List.getElem?_set_ne ne] at a b
        exact ⟨a, b⟩
      · by_cases z : j ∈ is
        · exact h6 j s z e
        · rcases List.mem_cons.mp hj with rfl | w
          · rw [(h3 j z).1] at e
            rcases get_set e with ⟨_, rfl, _⟩ | ⟨n, _⟩
            · rfl
            · exact absurd rfl n
          · exact absurd w z
/-- an item that is walked: a pair made for it may be no data -/
def RpJ (pr : Bool) (K : PySem.W.Frag) (G : Hp) (d : D) (v : V) : Prop := Rp K G d v ∨ (pr = true ∧ ∃ a vs ds, d = .tup ds ∧ v = .ref a ∧ SqT K G a vs ∧ Rps K G ds vs)
/-- a target's rule by values -/
def GtOk (X : Cx) (F : Fx) (pr : Bool) (tg : Tg) (g : TG) : Prop := ∀ (ρ : List S) (σ : St) (H G : Hp) (d : D) (v : V) (Q : St → Hp → Prop) (k : List S → Prop), EnvOk X.K F ρ σ H G → RpJ pr X.K G d v → bindT tg d ρ k →
  (∀ ρ' σ', k ρ' → EnvOk X.K F ρ' σ' H G → Sub ρ' σ' ρ σ tg.slots → Q σ' H) → g v σ H Q
theorem gt_nm {X : Cx} (i : Nat) : GtOk X F false (.nm i) (gName i) := by
  intro ρ σ H G d v Q k E r h q
  have r : Rp X.K G d v := by
    rcases r with r | ⟨z, _⟩
    · exact r
    · cases z
  refine q _ _ h (E.setIm r) ⟨by rw [List.length_set], by rw [List.length_set], fun j hj => ?_, fun j s hj e => ?_⟩
  · have ne : i ≠ j := fun z => hj (by rw [z]; exact List.mem_cons_self)
    rw [List.getElem?_set_ne ne, List.getElem?_set_ne ne]
    exact ⟨rfl, rfl⟩
  · rcases List.mem_singleton.mp hj with rfl
    rcases get_set e with ⟨_, rfl, _⟩ | ⟨n, _⟩
    · rfl
    · exact absurd rfl n
def gNames : List Nat → TGs
  | [] => gNil
  | i :: is => gCons (gName i) (gNames is)
theorem gNames_ok : ∀ {is : List Nat} {ws : List V} {σ : St} {H : Hp} {Q : St → Hp → Prop}, is.length = ws.length → Q ((is.zip ws).foldl (fun σ p => σ.set p.1 (some p.2)) σ) H → gNames is ws σ H Q
  | [], [], _, _, _, _, q => ⟨rfl, q⟩
  | i :: is, w :: ws, σ, H, Q, h, q => ⟨w, ws, rfl, gNames_ok (is := is) (by simpa using h) q⟩
  | [], _ :: _, _, _, _, h, _ => by cases h
  | _ :: _, [], _, _, _, h, _ => by cases h
theorem gt_tp {X : Cx} {pr : Bool} (is : List Nat) : GtOk X F pr (.tp is) (gTup X.K is.length (gNames is)) := by
  intro ρ σ H G d v Q k E r h q
  obtain ⟨ds, ρ', rfl, hs, hk⟩ := h
  have fin : ∀ a vs, v = .ref a → SqT X.K H a vs → Rps X.K G ds vs → gTup X.K is.length (gNames is) v σ H Q := fun a vs e hx rs => by
    obtain ⟨h1, h2, h3, h4, h5, h6⟩ := setAll_ok E rs hs
    exact ⟨_, _, e, hx, h1.symm, gNames_ok h1 (q _ _ hk h2 ⟨h4, h5, h3, h6⟩)⟩
  rcases r with r | ⟨_, a, vs, ds', e1, e2, hx, rs⟩
  · cases r with
    | tup hx _ rs => exact fin _ _ rfl (Same.seqT E.sub hx) rs
  · cases e1
    refine fin _ _ e2 ?_ rs
    rcases hx with (hx | ⟨o, hx⟩) | hx
    · exact .inl (.inl (E.sub _ _ hx))
    · exact .inl (.inr ⟨o, E.sub _ _ hx⟩)
    · exact .inr hx
/-! ### wiped slots -/
def wipeS (ρ : List S) : List Nat → List S
  | [] => ρ
  | v :: vs => (wipeS ρ vs).set v .un
theorem EnvOk.wipe (E : EnvOk K F ρ σ H G) : ∀ vs : List Nat, EnvOk K F (wipeS ρ vs) (L2.wipe σ vs) H G
  | [] => E
  | v :: vs => (EnvOk.wipe E vs).setUn
theorem wipe_sub (ρ : List S) (σ : St) (vs : List Nat) : Sub (wipeS ρ vs) (L2.wipe σ vs) ρ σ vs := by
  induction vs with
  | nil => exact Sub.refl ρ σ
  | cons v vs ih =>
    refine ⟨by rw [wipeS, List.length_set]; exact ih.len, by rw [L2.wipe, List.length_set]; exact ih.lens, fun i hi => ?_, fun i s hi e => ?_⟩
    · have ne : v ≠ i := fun z => hi (by rw [z]; exact List.mem_cons_self)
      rw [wipeS, L2.wipe, List.getElem?_set_ne ne, List.getElem?_set_ne ne]
      exact ih.out i fun z => hi (List.mem_cons_of_mem _ z)
    · rw [wipeS] at e
      rcases get_set e with ⟨_, rfl, _⟩ | ⟨n, e⟩
      · rfl
      · rcases List.mem_cons.mp hi with z | z
        · exact absurd z n
        · exact ih.fr i s z e
theorem wipe_in {i : Nat} : ∀ {vs : List Nat}, i ∈ vs → i < σ.length → (L2.wipe σ vs)[i]? = some none
  | [], h, _ => by cases h
  | v :: vs, h, l => by
    rw [L2.wipe]
    by_cases e : v = i
    · subst e
      rw [List.getElem?_set_self (by rw [wipe_length]; exact l)]
    · rw [List.getElem?_set_ne e]
      rcases List.mem_cons.mp h with z | z
      · exact absurd z.symm e
      · exact wipe_in z l
theorem wipe_eq (h : Sub ρ2 σ2 (wipeS ρ vs) (L2.wipe σ vs) vs) : L2.wipe σ2 vs = L2.wipe σ vs := by
  refine List.ext_getElem? fun i => ?_
  have l : σ2.length = σ.length := by rw [h.lens, wipe_length]
  by_cases hi : i ∈ vs
  · by_cases hl : i < σ.length
    · rw [wipe_in hi hl, wipe_in hi (by rw [l]; exact hl)]
    · rw [List.getElem?_eq_none (by rw [wipe_length]; omega), List.getElem?_eq_none (by rw [wipe_length]; omega)]
  · rw [wipe_out hi, wipe_out hi, (h.out i hi).2, wipe_out hi]
def noOwn (ρ : List S) (vs : List Nat) : Bool := vs.all fun i => !(ρ.getD i .un).own
theorem noOwn_ok (h : noOwn ρ vs = true) : ∀ (i : Nat) (s : S), i ∈ vs → ρ[i]? = some s → s.own = false := fun i s hi e => by
  have q := List.all_eq_true.mp h i hi
  rw [List.getD_eq_getElem?_getD, e] at q
  simpa using q
/-- the outer slots behind code that ran over changed ones -/
theorem EnvOk.outer (E : EnvOk K F ρ σ H G) (E2 : EnvOk K F ρ2 σ2 H2 G2) (s : Same G G2) (u : Sub ρ2 σ2 ρ σ vs) (n : ∀ (i : Nat) (s : S), i ∈ vs → ρ[i]? = some s → s.own = false) : EnvOk K F ρ σ H2 G2 := by
  refine ⟨E.len, E2.sub, E2.g0, E2.gf, E2.keep, E2.cupk, E2.cup0, fun i t e => ?_, E.dis⟩
  by_cases hi : i ∈ vs
  · have w := n i t hi e
    cases t with
    | un => trivial
    | im d => obtain ⟨v, e1, r⟩ := E.slot i _ e; exact ⟨v, e1, r.mono s⟩
    | _ => cases w
  · rw [← (u.out i hi).2]
    exact E2.slot i t (by rw [(u.out i hi).1]; exact e)
theorem Keep.outer (k : Keep ρ2 σ2 H H2 G G2) (u : Sub ρ2 σ2 ρ σ vs) : Keep ρ σ H H2 G G2 := ⟨fun b o e n => k.obj b o e fun i h x => by
  by_cases hi : i ∈ vs
  · exact Bool.noConfusion (u.fr i _ hi h)
  · exact n i (by rw [← (u.out i hi).1]; exact h) (by rw [← (u.out i hi).2]; exact x), k.trk, k.fre⟩
theorem not_own {D : Addr} (no : ∀ (j : Nat) (t : S), ρ[j]? = some t → t.own = true → σ[j]? ≠ some (some (.ref D))) (u : Sub ρ2 σ2 ρ σ vs) : ∀ (j : Nat) (t : S), ρ2[j]? = some t → t.own = true → σ2[j]? ≠ some (some (.ref D)) := fun j t e w x => by
  by_cases hi : j ∈ vs
  · rw [u.fr j t hi e] at w; cases w
  · exact no j t (by rw [← (u.out j hi).1]; exact e) w (by rw [← (u.out j hi).2]; exact x)
end

/-! ### what is walked -/
def RelI (K : PySem.W.Frag) (F : Fx) (st pr : Bool) (ds : List D) (J : It) (ρ : List S) (σ : St) (H G : Hp) : Prop :=
  ∀ ρ' σ' H' G', EnvOk K F ρ' σ' H' G' → Same G G' → (st = false → KeepO ρ σ H H') → ∀ i : Nat, (ds.length ≤ i → J.stop i H') ∧
    ∀ d, ds[i]? = some d → J.go i H' ∧ ∀ x H2, J.yld i H' x H2 → ∃ G2, EnvOk K F ρ' σ' H2 G2 ∧ Same G' G2 ∧ Same H' H2 ∧ (∀ b : Addr, H' b ≠ none → G' b = none → G2 b = none) ∧ RpJ pr K G2 d x
def lI (X : Cx) (F : Fx) (E : EX) (st pr : Bool) (t : DW (List D)) : TI := fun σ H Q =>
  ∃ ρ G R Z, EnvOk X.K F ρ σ H G ∧ t ρ R Z ∧ (∀ ds, R ds → ∀ J H' G', EnvOk X.K F ρ σ H' G' → Same G G' → Keep ρ σ H H' G G' → ds.length ≤ sizeLine → RelI X.K F st pr ds J ρ σ H' G' → Q J H') ∧ lX X F E G ρ σ Z
theorem _root_.L2.PI.imp {X : Cx} {tg iter : Expr} {t t' : TI} (h : PI X tg iter t) (k : ∀ σ H Q, t' σ H Q → t σ H Q) : PI X tg iter t' := ⟨fun pins s σ H Q I q => h.run pins s σ H Q I (k _ _ _ q)⟩
section
variable {X : Cx} {F : Fx} {E : EX} {tg e : Expr} {ta tb : DW D} {ts : DW (List D)} {p pos : Pos}
/-- a list or a tuple -/
def iSeq (K : PySem.W.Frag) (tl : TE) : TI := fun σ H R => tl σ H fun x H1 => ∃ a, x = .ref a ∧ (((∃ xs, SqL K H1 a xs) ∧ R (Itl K a) H1) ∨ ((∃ xs, SqT K H1 a xs) ∧ R (Itt K a) H1))
theorem pi_seq {l : Expr} {tl : TE} (hl : PE X l tl) : PI X tg l (iSeq X.K tl) := by
  refine ⟨fun pins s σ H R I h => ?_⟩
  refine thn (hl.run pins s σ H _ I h) fun v s1 ⟨x, H1, I1, r1, q1⟩ => ?_
  obtain ⟨a, e, ⟨⟨xs, hq⟩, q⟩ | ⟨⟨xs, hq⟩, q⟩⟩ := q1
  · subst e
    cases r1
    obtain ⟨its, rv, p, hz⟩ := I1.list hq
    refine wpAny_pyIter_list p.isList ?_
    refine ⟨s1.heap.objs.size, [s1.heap.objs.size], _, _, H1, rfl, I1.kept (t' := s1.toks) fun b o e => Heap.get?_push_of_some _ e, turn_list a _, ⟨_, Heap.get?_push_size _ rfl, rfl, rfl⟩, fun b hb => ?_, q⟩
    have e : b = s1.heap.objs.size := by simpa using hb
    subst e
    exact I1.fpOk (Nat.le_refl _) (I1.hok.fresh (Nat.le_refl _))
  · subst e
    cases r1
    obtain ⟨its, rv, p, hz⟩ := I1.tuple hq
    refine wpAny_pyIter_tuple (show s1.heap.IsTuple a its.toArray from p) ?_
    refine ⟨s1.heap.objs.size, [s1.heap.objs.size], _, _, H1, rfl, I1.kept (t' := s1.toks) fun b o e => Heap.get?_push_of_some _ e, turn_tuple a _, ⟨_, Heap.get?_push_size _ rfl, rfl, rfl⟩, fun b hb => ?_, q⟩
    have e : b = s1.heap.objs.size := by simpa using hb
    subst e
    exact I1.fpOk (Nat.le_refl _) (I1.hok.fresh (Nat.le_refl _))
def itemsD : D → Option (List D)
  | .tup ds => some ds
  | .lst ds => some ds
  | _ => none
def dItems (t : DW D) : DW (List D) := fun ρ R Z => t ρ (fun d => ∃ ds, itemsD d = some ds ∧ R ds) Z
theorem i_seq (h : PE X e (lE X F E ta)) : PI X tg e (lI X F E true false (dItems ta)) := (pi_seq h).imp fun σ H Q ⟨ρ, G, R, Z, E0, h, k, z⟩ => by
  refine ⟨ρ, G, _, Z, E0, h, fun d hd v H1 G1 E1 s1 k1 r => ?_, z⟩
  obtain ⟨ds, hi, hr⟩ := hd
  cases r with
  | tup hx hz rs =>
    cases hi
    refine ⟨_, rfl, .inr ⟨⟨_, Same.seqT E1.sub hx⟩, k _ hr _ _ _ E1 s1 k1 (by rw [rs.length]; exact hz) fun ρ' σ' H' G' E' s' _ i => ?_⟩⟩
    have q := Same.seqT E'.sub (hx.mono s')
    refine ⟨fun hi => ⟨_, q, by rw [← rs.length]; exact hi⟩, fun d hd => ?_⟩
    obtain ⟨w, hw, rw'⟩ := rs.get' hd
    refine ⟨⟨_, w, q, hw⟩, fun x H2 hy => ?_⟩
    obtain ⟨rfl, hy⟩ := hy
    have := hy _ q
    rw [hw] at this
    cases this
    exact ⟨G', E', Same.refl G', Same.refl _, fun _ _ h => h, .inl (rw'.mono s')⟩
  | lst hx hz rs =>
    cases hi
    refine ⟨_, rfl, .inl ⟨⟨_, .inl (.inl (E1.sub _ _ hx))⟩, k _ hr _ _ _ E1 s1 k1 (by rw [rs.length]; exact hz) fun ρ' σ' H' G' E' s' _ i => ?_⟩⟩
    have q : SqL X.K H' _ _ := .inl (.inl (E'.sub _ _ (s' _ _ hx)))
    refine ⟨fun hi => ⟨_, q, by rw [← rs.length]; exact hi⟩, fun d hd => ?_⟩
    obtain ⟨w, hw, rw'⟩ := rs.get' hd
    refine ⟨⟨_, w, q, hw⟩, fun x H2 hy => ?_⟩
    obtain ⟨rfl, hy⟩ := hy
    have := hy _ q
    rw [hw] at this
    cases this
    exact ⟨G', E', Same.refl G', Same.refl _, fun _ _ h => h, .inl (rw'.mono s')⟩
  | _ => cases hi
/-- a list of the def's own, read at once (in a comprehension) -/
theorem i_lst (h : PE X e (lL X F E ts)) : PI X tg e (lI X F E false false ts) := (pi_list h).imp fun σ H Q ⟨ρ, G, R, Z, E0, h, k, z⟩ => by
  refine ⟨ρ, G, _, Z, E0, h, fun ds hr v H1 G1 E1 s1 k1 r => ?_, z⟩
  obtain ⟨a, vs, rfl, hz, rs, kk⟩ := r
  refine ⟨a, rfl, ⟨vs, .inl (.inl (kk H1 (KeepO.refl ρ σ H1)))⟩, k _ hr _ _ _ E1 s1 k1 (by rw [rs.length]; exact hz) fun ρ' σ' H' G' E' s' kp i => ?_⟩
  have q : SqL X.K H' a vs := .inl (.inl (kk H' (kp rfl)))
  refine ⟨fun hi => ⟨_, q, by rw [← rs.length]; exact hi⟩, fun d hd => ?_⟩
  obtain ⟨w, hw, rw'⟩ := rs.get' hd
  refine ⟨⟨_, w, q, hw⟩, fun x H2 hy => ?_⟩
  obtain ⟨rfl, hy⟩ := hy
  have := hy _ q
  rw [hw] at this
  cases this
  exact ⟨G', E', Same.refl G', Same.refl _, fun _ _ h => h, .inl (rw'.mono s')⟩
/-- range(n), range(a, b) -/
def rgD (a b : Int) : List D := (List.range (b - a).toNat).map fun i => D.int (a + (i : Nat))
theorem rgD_length (a b : Int) : (rgD a b).length = (b - a).toNat := by unfold rgD; rw [List.length_map, List.length_range]
theorem rgD_get {a b : Int} {i : Nat} {d : D} (h : (rgD a b)[i]? = some d) : i < (b - a).toNat ∧ d = .int (a + i) := by
  unfold rgD at h
  rw [List.getElem?_map] at h
  by_cases hi : i < (b - a).toNat
  · rw [List.getElem?_range hi] at h
    cases h
    exact ⟨hi, rfl⟩
  · rw [List.getElem?_eq_none (by rw [List.length_range]; omega)] at h
    cases h
def RgB (a b : Int) : Prop := -16777216 ≤ a ∧ a ≤ 16777216 ∧ -16777216 ≤ b ∧ b ≤ 16777216 ∧ b - a ≤ 16777216
theorem relI_rg {K : PySem.W.Frag} {a b : Int} {ρ : List S} {σ : St} {H G : Hp} : RelI K F true false (rgD a b) (Itr a (b - a).toNat) ρ σ H G := by
  intro ρ' σ' H' G' E' s' _ i
  refine ⟨fun hi => by rw [rgD_length] at hi; exact hi, fun d hd => ?_⟩
  obtain ⟨h1, rfl⟩ := rgD_get hd
  refine ⟨h1, fun x H2 hy => ?_⟩
  obtain ⟨rfl, rfl⟩ := hy
  exact ⟨G', E', Same.refl G', Same.refl _, fun _ _ h => h, .inl (.int _)⟩
def dRg1 (ta : DW D) : DW (List D) := fun ρ R Z => ta ρ (fun d => ∃ n : Int, d = .int n ∧ n ≤ 16777216 ∧ -16777216 ≤ n ∧ R (rgD 0 n)) Z
def dRg2 (ta tb : DW D) : DW (List D) := fun ρ R Z => ta ρ (fun d => tb ρ (fun d2 => ∃ a b : Int, d = .int a ∧ d2 = .int b ∧ RgB a b ∧ R (rgD a b)) Z) Z
theorem i_rg1 {a : Expr} (hg : Gl X "range") (hm : X.mg "range" = none) (ha : PE X a (lE X F E ta)) (hs : starEach [a] X.env = [(false, eval a X.env)] := by rfl) : PI X tg (.Call (.Name "range" p) [a] [] pos) (lI X F E true false (dRg1 ta)) :=
  (pi_range1 hg hm (pa_cons ha pa_nil hs) hs).imp fun σ H Q ⟨ρ, G, R, Z, E0, h, k, z⟩ => by
    refine ⟨ρ, G, _, Z, E0, h, fun d hd v H1 G1 E1 s1 k1 r => ?_, z⟩
    obtain ⟨n, rfl, hn, hn2, hr⟩ := hd
    cases r
    refine ⟨n, rfl, by omega, by omega, ?_⟩
    have q := k _ hr (Itr 0 n.toNat) H1 G1 E1 s1 k1 (by rw [rgD_length, sizeLine_eq]; omega) (by
      have := relI_rg (F := F) (K := X.K) (a := 0) (b := n) (ρ := ρ) (σ := σ) (H := H1) (G := G1)
      rw [Int.sub_zero] at this
      exact this)
    exact q
theorem i_rg2 {a b : Expr} (hg : Gl X "range") (hm : X.mg "range" = none) (ha : PE X a (lE X F E ta)) (hb : PE X b (lE X F E tb)) (hs : starEach [a, b] X.env = [(false, eval a X.env), (false, eval b X.env)] := by rfl) (hs2 : starEach [b] X.env = [(false, eval b X.env)] := by rfl) :
    PI X tg (.Call (.Name "range" p) [a, b] [] pos) (lI X F E true false (dRg2 ta tb)) :=
  (pi_range2 hg hm (pa_cons ha (pa_cons hb pa_nil hs2) (by rw [hs, hs2])) hs hs2).imp fun σ H Q ⟨ρ, G, R, Z, E0, h, k, z⟩ => by
    refine ⟨ρ, G, _, Z, E0, h, fun d hd v H1 G1 E1 s1 k1 r => ?_, z⟩
    refine ⟨ρ, G1, _, Z, E1, hd, fun d2 hd2 v2 H2 G2 E2 s2 k2 r2 => ?_, z.mono s1⟩
    obtain ⟨a, b, rfl, rfl, hb, hr⟩ := hd2
    cases r
    cases r2
    obtain ⟨b1, b2, b3, b4, b5⟩ := hb
    exact ⟨a, b, rfl, by omega, k _ hr _ _ _ E2 (s1.trans s2) (k1.trans k2) (by rw [rgD_length, sizeLine_eq]; omega) relI_rg⟩
end
end DL
namespace PySem
open Sem (wp)
open Builtin Builtin.Str
set_option maxHeartbeats 1000000 in
theorem dl_enum_new1 {v : Value} {o : Obj} {H : Heap → Prop} (B : Begins v o H) :
    Meets (Builtin.«enumerate.__new__» ⟨[.type "enumerate", v], []⟩) (fun _ R s => H s.heap ∧
      R (.ok (.ret (.ref (s.heap.push o).objs.size))) { s with heap := (s.heap.push o).push { cls := .type "enumerate", data := .fields #[.none, .bool false, .ref s.heap.objs.size, rawInt 0, .none, .none] } }) :=
  .of_wp fun prog w A R s h => by
    obtain ⟨hp, g, d, tk, os⟩ := s; obtain ⟨h1, h⟩ := h
    have hsub := sub_enumerate
    have q1 : ∀ {A' : Around} {E : Value → Shared → Prop} {Q : Value → Shared → Prop}, Q (.ref hp.objs.size) ⟨hp.push o, g, d, tk, os⟩ → wpAny (model prog w) A' (pyIter v) Q E ⟨hp, g, d, tk, os⟩ :=
      fun q => B.iter prog w _ _ ⟨hp, g, d, tk, os⟩ _ h1 q
    wp_walk using q1
    refine wpAny_stack_any fun st => wpAny_pure ?_
    split
    · rename_i c _ _ _ _ _
      cases (c == Value.type "enumerate")
      · wp_walk using q1
        exact ⟨_, rfl, h⟩
      · wp_walk using q1
        exact ⟨_, rfl, h⟩
    · wp_walk using q1
      exact ⟨_, rfl, h⟩
section
variable {prog : Program} {w : World} {A : Around} {E : Value → Shared → Prop} {s : Shared}
theorem dl_enum_begins {v : Value} {o : Obj} {H : Heap → Prop} {Q : Value → Shared → Prop} (B : Begins v o H) (h1 : H s.heap)
    (h : ∀ h', IsEnum h' (s.heap.objs.size + 1) s.heap.objs.size 0 .none → h'.get? s.heap.objs.size = some o → h'.objs.size = s.heap.objs.size + 2 →
      (∀ b o, s.heap.get? b = some o → h'.get? b = some o) → Q (.ref (s.heap.objs.size + 1)) { s with heap := h' }) :
    wpAny (model prog w) A (call (.type "enumerate") [v]) Q E s := by
  refine callType_new F.called_enumerate (by decide) (F.typeCall_enumerate_1 _) (F.newCall_enumerate_1 _) (fun obj => F.args_object_init_2 obj _) F.entry_enumerate_new
    (dl_enum_new1 B) ⟨h1, ?_⟩
  have hz : (s.heap.push o).objs.size = s.heap.objs.size + 1 := Heap.size_push ..
  show _ ∧ _
  rw [hz]
  have he : IsEnum ((s.heap.push o).push { cls := .type "enumerate", data := .fields #[.none, .bool false, .ref s.heap.objs.size, rawInt 0, .none, .none] }) (s.heap.objs.size + 1) s.heap.objs.size 0 .none := by
    have := Heap.get?_push_size (s.heap.push o) (o := { cls := .type "enumerate", data := .fields #[.none, .bool false, .ref s.heap.objs.size, rawInt 0, .none, .none] }) rfl
    rw [hz] at this; exact this
  refine ⟨⟨_, he, rfl⟩, h _ he (Heap.get?_push_of_some _ (Heap.get?_push_size _ B.free)) (by rw [Heap.size_push, hz]) fun b o x => Heap.get?_push_of_some _ (Heap.get?_push_of_some _ x)⟩
end
end PySem
namespace DL
open PySem PySem.Spec PyProof.Rows L2
/-- enumerate over a tuple, a text: fixed items xs (as they stand in H) -/
def IteX (ok : Hp → List V → Prop) : It :=
  ⟨fun i H => ∃ (xs : List V) (x : V), ok H xs ∧ xs[i]? = some x, fun i H v H' => ∃ T x, v = .ref T ∧ H T = none ∧ H' = upd H T (.tup [.int (i : Nat), x]) ∧ ∀ xs, ok H xs → xs[i]? = some x, fun i H => ∃ xs : List V, ok H xs ∧ xs.length ≤ i⟩
theorem turn_enumT {P : Program} {w : World} {K : PySem.W.Frag} {elts : List Expr} {kk : Nat} {tpos : Pos} (a e it : Addr) :
    Turn P w K (.Tuple elts kk tpos) (IteX fun H xs => SqT K H a xs) [e, it] e (fun i h => (∃ old, IsEnum h e it ((i : Nat) : Int) old) ∧ h.IsTupleIter it a i ∧ e ≠ it ∧ e ≠ a ∧ it ≠ a) where
  mem := by simp
  obj := fun i h st b hb => by
    obtain ⟨⟨old, he⟩, ⟨o, ho, hc, hd⟩, _⟩ := st
    have e' : b = e ∨ b = it := by simpa using hb
    rcases e' with z | z
    · rw [z]; exact ⟨_, he, fun v q => nomatch q⟩
    · rw [z]; exact ⟨o, ho, fun v q => by rw [hd] at q; cases q⟩
  keep := fun i h h' st k => let ⟨⟨old, he⟩, hi, hne⟩ := st; ⟨⟨old, k e (by simp) _ he⟩, hi.at fun o q => k it (by simp) o q, hne⟩
  item := by
    intro X hP hw hK hc i pins s σ H E I hf st hg
    subst hP hw hK
    obtain ⟨⟨old, he⟩, hit, hne, hea, hia⟩ := st
    obtain ⟨xs, x, hq, hx⟩ := hg
    obtain ⟨its, rv, p, hz⟩ := I.tuple hq
    obtain ⟨u, hu, ru⟩ := rv.get hx
    have hel : e < s.heap.objs.size := Heap.lt_size he
    have hil : it < s.heap.objs.size := by obtain ⟨_, q, _⟩ := hit; exact Heap.lt_size q
    have hh : X.A.in1.handled = none := I.ok.hd hc
    refine wpAny_pyNext_enum_itemD (Draws.tuple (prog := X.prog) (w := X.w) (A := X.A.in1) hh it a (Ne.symm hia) its.toArray) he ⟨hit, p⟩ (by have := (List.getElem?_eq_some_iff.mp hu).1; simpa using this) hne (by simp [hne, hea]) fun y h' tk hy ho st' hT hsz hk => ?_
    have ey : y = u := by
      rw [List.getElem?_toArray] at hy
      rw [hu] at hy
      cases hy
      rfl
    subst ey
    refine ⟨_, rfl, wpAny_letOwnedTupleGo_enum (s := { s with heap := h', toks := tk + 1 }) ho fun h'' he' sb => ?_⟩
    have hT2 : h''.get? s.heap.objs.size = some { cls := .type "tuple", data := .seq #[.int i tk, y] } := (sb.2 _ (Nat.ne_of_gt hel)).trans hT
    have new : ObjOk X.prog X.w (upd H s.heap.objs.size (.tup [.int (i : Nat), x])) h'' s.heap.objs.size (.tup [.int (i : Nat), x]) :=
      ⟨by show 2 ≤ sizeLine; decide, [.int i tk, y], .cons ⟨_, rfl⟩ (.cons ru .nil), ⟨_, hT2, rfl, _, rfl⟩⟩
    have I1 : Inv X pins σ (upd H s.heap.objs.size (.tup [.int (i : Nat), x])) { s with heap := h'', toks := tk + 1 } :=
      I.turnedNew (ch := [e, it]) (fun b ob hb q => (sb.2 b (fun z => hb (by simp [z]))).trans (hk b ob (fun z => hb (by simp [z])) (fun z => hb (by simp [z])) q)) hf (Nat.le_refl _) new
    refine ⟨.ref s.heap.objs.size, _, I1, rfl, ⟨_, x, rfl, I.hok.fresh (Nat.le_refl _), rfl, fun ys hy => by rw [I.tuple_inj hy hq]; exact hx⟩, ⟨⟨y, ?_⟩, st'.1.at fun o q => (sb.2 it (Ne.symm hne)).trans q, hne, hea, hia⟩, fun b hb => ?_⟩
    · have e1 : ((i + 1 : Nat) : Int) = (i : Int) + 1 := by omega
      rw [e1]; exact he'
    · have hb' : b < s.heap.objs.size := by
        have e' : b = e ∨ b = it := by simpa using hb
        rcases e' with z | z
        · rw [z]; exact hel
        · rw [z]; exact hil
      rw [upd_ne (Nat.ne_of_lt hb')]
      exact (hf b hb).1
  done := by
    intro X hP hw hK hc i pins s σ H E I hf st hg
    subst hP hw hK
    obtain ⟨⟨old, he⟩, hit, hne, hea, hia⟩ := st
    obtain ⟨xs, hq, hx⟩ := hg
    obtain ⟨its, rv, p, hz⟩ := I.tuple hq
    obtain ⟨f0, f1, f2, f3, f4, f5⟩ := hf it (by simp)
    have hl := rv.length
    have hh : X.A.in1.handled = none := I.ok.hd hc
    have hT : s.TypeIs (.ref e) "enumerate" := ⟨_, he, rfl⟩
    unfold pyNext
    refine wpAny_bind (wpAny_attempt (wpAny_callSpecial?_slot (name := Str.ofString "__next__") hT F.slot_enumerate_next
      (wpAny_call_entry F.slot_enumerate_next hT F.entry_enumerate_next ?_ (F.args_enumerate_next_1 _))))
    show wpAny _ _ (field (.ref e) 2 >>= _) _ _ _
    refine wpAny_bind (wpAny_field he rfl (x := .ref it) rfl ?_)
    refine wpAny_bind (wpAny_nextOf_tuple_end hh hit p (by simp; omega) fun h' x he' hx' => ?_)
    obtain ⟨o, ho, hc⟩ := hx'
    refine wpAny_bind (wpAny_isInstance (T := "StopIteration") (b := true) ⟨o, ho, hc⟩ isSubtype_stop ?_)
    exact wpAny_pure ⟨rfl, I.turned (t' := s.toks) (fun b o hb q => he' b o hb q) f0 f1 f3 f4 f5⟩
  self := fun A i s Q E st h => let ⟨⟨_, he⟩, _⟩ := st; wpAny_pyIter_enum he h
def iEnumA (K : PySem.W.Frag) (ta : TE) : TI := fun σ H R => ta σ H fun v H1 => ∃ a, v = .ref a ∧ ((∃ xs, SqL K H1 a xs ∧ R (Ite K a) H1) ∨ ∃ xs, SqT K H1 a xs ∧ R (IteX fun H xs => SqT K H a xs) H1)
theorem pi_enumA {X : Cx} {e : Expr} {ta : TE} {p pos tpos : Pos} {elts : List Expr} {kk : Nat} (hg : Gl X "enumerate") (hm : X.mg "enumerate" = none) (ha : PE X e ta) (hs : starEach [e] X.env = [(false, eval e X.env)] := by rfl) :
    PI X (.Tuple elts kk tpos) (.Call (.Name "enumerate" p) [e] [] pos) (iEnumA X.K ta) := by
  refine ⟨fun pins s σ H R I h => ?_⟩
  have hA : PA X [e] (tCons ta tNil) := pa_cons ha pa_nil hs
  refine Call_ (ld_blt I hg hm boot_enumerate (PyProof.Rows.callWith_type1 (thn (hA.run pos pins s σ H (fun vs H1 => match vs with | [v] => ∃ a, v = .ref a ∧ ((∃ xs, SqL X.K H1 a xs ∧ R (Ite X.K a) H1) ∨ ∃ xs, SqT X.K H1 a xs ∧ R (IteX fun H xs => SqT X.K H a xs) H1) | _ => False) I h) fun us s1 ⟨vs, H1, I1, r1, q1⟩ => ?_) hs rfl))
  cases r1 with
  | nil => exact q1.elim
  | cons r rr =>
    cases rr with
    | cons _ _ => exact q1.elim
    | nil =>
      obtain ⟨a, ex, q⟩ := q1
      subst ex
      cases r
      have fresh2 : ∀ b ∈ [s1.heap.objs.size + 1, s1.heap.objs.size], FpOk X pins H1 b := fun b hb => by
        have e' : b = s1.heap.objs.size + 1 ∨ b = s1.heap.objs.size := by simpa using hb
        have hle : s1.heap.objs.size ≤ b := by
          rcases e' with z | z
          · rw [z]; exact Nat.le_add_right _ _
          · rw [z]; exact Nat.le_refl _
        exact I1.fpOk hle (I1.hok.fresh hle)
      rcases q with ⟨xs, hq, q⟩ | ⟨xs, hq, q⟩
      · obtain ⟨its, rv, p', hz⟩ := I1.list hq
        refine call_enumerate_list p'.isList fun h' he hit hsz hk => wpAny_pyIter_enum he ?_
        have I2 : Inv X pins σ H1 { s1 with heap := h' } := I1.kept (t' := s1.toks) hk
        exact ⟨s1.heap.objs.size + 1, [s1.heap.objs.size + 1, s1.heap.objs.size], _, _, H1, rfl, I2, turn_enum a (s1.heap.objs.size + 1) s1.heap.objs.size, ⟨⟨.none, he⟩, hit, Nat.succ_ne_self _⟩, fresh2, q⟩
      · obtain ⟨its, rv, p', hz⟩ := I1.tuple hq
        have al : a < s1.heap.objs.size := p'.lt
        refine dl_enum_begins (begins_tuple a its.toArray) p' fun h' he hit hsz hk => wpAny_pyIter_enum he ?_
        have I2 : Inv X pins σ H1 { s1 with heap := h' } := I1.kept (t' := s1.toks) hk
        exact ⟨s1.heap.objs.size + 1, [s1.heap.objs.size + 1, s1.heap.objs.size], _, _, H1, rfl, I2, turn_enumT a (s1.heap.objs.size + 1) s1.heap.objs.size, ⟨⟨.none, he⟩, ⟨_, hit, rfl, rfl⟩, Nat.succ_ne_self _, Nat.ne_of_gt (Nat.lt_succ_of_lt al), Nat.ne_of_gt al⟩, fresh2, q⟩
section
variable {X : Cx} {F : Fx} {E : EX} {e e2 : Expr} {ta tb : DW D} {p pos tpos : Pos} {elts : List Expr} {kk : Nat}
/-- pairs (i, item) -/
def enD : Nat → List D → List D
  | _, [] => []
  | i, d :: ds => .tup [.int i, d] :: enD (i + 1) ds
theorem enD_length : ∀ (n : Nat) (ds : List D), (enD n ds).length = ds.length
  | _, [] => rfl
  | n, d :: ds => by rw [enD, List.length_cons, List.length_cons, enD_length (n + 1) ds]
theorem enD_get : ∀ (n : Nat) (ds : List D) (i : Nat) (d : D), (enD n ds)[i]? = some d → ∃ x, ds[i]? = some x ∧ d = .tup [.int ((n + i : Nat)), x]
  | _, [], _, _, h => by simp [enD] at h
  | n, d :: ds, 0, _, h => by
    simp [enD] at h
    exact ⟨d, rfl, by rw [← h]; rfl⟩
  | n, d :: ds, i + 1, x, h => by
    obtain ⟨y, h1, h2⟩ := enD_get (n + 1) ds i x (by simpa [enD] using h)
    exact ⟨y, by simpa using h1, by rw [h2, show n + 1 + i = n + (i + 1) by omega]⟩
def dEnum (t : DW D) : DW (List D) := fun ρ R Z => t ρ (fun d => ∃ ds, itemsD d = some ds ∧ R (enD 0 ds)) Z
/-- a pair yielded as a new tuple -/
theorem pair_new {K : PySem.W.Frag} {ρ : List S} {σ : St} {H G : Hp} {T : Addr} {x y : V} {d e : D} (E : EnvOk K F ρ σ H G) (nT : H T = none) (h1 : Rp K G d x) (h2 : Rp K G e y) :
    ∃ G2, EnvOk K F ρ σ (upd H T (.tup [x, y])) G2 ∧ Same G G2 ∧ Same H (upd H T (.tup [x, y])) ∧ (∀ b : Addr, H b ≠ none → G b = none → G2 b = none) ∧ RpJ true K G2 (.tup [d, e]) (.ref T) := by
  have sn := same_new (o := .tup [x, y]) (E.gnone nT)
  exact ⟨_, E.frz nT, sn, same_new nT, (Keep.frz (ρ := ρ) (σ := σ) (G := G) (o := .tup [x, y]) nT).fre, .inr ⟨rfl, T, [x, y], [d, e], rfl, rfl, .inl (.inl upd_same), .cons (h1.mono sn) (.cons (h2.mono sn) .nil)⟩⟩
theorem i_enum (hg : Gl X "enumerate") (hm : X.mg "enumerate" = none) (h : PE X e (lE X F E ta)) (hs : starEach [e] X.env = [(false, eval e X.env)] := by rfl) : PI X (.Tuple elts kk tpos) (.Call (.Name "enumerate" p) [e] [] pos) (lI X F E true true (dEnum ta)) :=
  (pi_enumA hg hm h hs).imp fun σ H Q ⟨ρ, G, R, Z, E0, h, k, z⟩ => by
    refine ⟨ρ, G, _, Z, E0, h, fun d hd v H1 G1 E1 s1 k1 r => ?_, z⟩
    obtain ⟨ds, hi, hr⟩ := hd
    cases r with
    | tup hx hz rs =>
      cases hi
      refine ⟨_, rfl, .inr ⟨_, Same.seqT E1.sub hx, k _ hr _ _ _ E1 s1 k1 (by rw [enD_length, rs.length]; exact hz) fun ρ' σ' H' G' E' s' _ i => ?_⟩⟩
      have q := Same.seqT E'.sub (hx.mono s')
      refine ⟨fun hi => ⟨_, q, by rw [enD_length, rs.length] at hi; exact hi⟩, fun d hd => ?_⟩
      obtain ⟨y, hy, rfl⟩ := enD_get _ _ _ _ hd
      obtain ⟨w, hw, rw'⟩ := rs.get' hy
      refine ⟨⟨_, w, q, hw⟩, fun x H2 hy => ?_⟩
      obtain ⟨T, x', rfl, nT, rfl, hy⟩ := hy
      have := hy _ q
      rw [hw] at this
      cases this
      rw [Nat.zero_add]
      exact pair_new E' nT (.int _) (rw'.mono s')
    | lst hx hz rs =>
      cases hi
      refine ⟨_, rfl, .inl ⟨_, .inl (.inl (E1.sub _ _ hx)), k _ hr _ _ _ E1 s1 k1 (by rw [enD_length, rs.length]; exact hz) fun ρ' σ' H' G' E' s' _ i => ?_⟩⟩
      have q : SqL X.K H' _ _ := .inl (.inl (E'.sub _ _ (s' _ _ hx)))
      refine ⟨fun hi => ⟨_, q, by rw [enD_length, rs.length] at hi; exact hi⟩, fun d hd => ?_⟩
      obtain ⟨y, hy, rfl⟩ := enD_get _ _ _ _ hd
      obtain ⟨w, hw, rw'⟩ := rs.get' hy
      refine ⟨⟨_, w, q, hw⟩, fun x H2 hy => ?_⟩
      obtain ⟨T, x', rfl, nT, rfl, hy⟩ := hy
      have := hy _ q
      rw [hw] at this
      cases this
      rw [Nat.zero_add]
      exact pair_new E' nT (.int _) (rw'.mono s')
    | _ => cases hi
/-- zip of two lists, of two tuples -/
def zipD : List D → List D → List D
  | x :: xs, y :: ys => .tup [x, y] :: zipD xs ys
  | _, _ => []
theorem zipD_length : ∀ (xs ys : List D), (zipD xs ys).length = min xs.length ys.length
  | [], _ => by simp [zipD]
  | _ :: _, [] => by simp [zipD]
  | x :: xs, y :: ys => by
    rw [zipD, List.length_cons, zipD_length xs ys, List.length_cons, List.length_cons]
    omega
theorem zipD_get : ∀ (xs ys : List D) (i : Nat) (d : D), (zipD xs ys)[i]? = some d → ∃ x y, xs[i]? = some x ∧ ys[i]? = some y ∧ d = .tup [x, y]
  | [], _, _, _, h => by simp [zipD] at h
  | _ :: _, [], _, _, h => by simp [zipD] at h
  | x :: xs, y :: ys, 0, d, h => by
    simp [zipD] at h
    exact ⟨x, y, rfl, rfl, h.symm⟩
  | x :: xs, y :: ys, i + 1, d, h => by
    obtain ⟨a, b, h1, h2, h3⟩ := zipD_get xs ys i d (by simpa [zipD] using h)
    exact ⟨a, b, by simpa using h1, by simpa using h2, h3⟩
def gZip : D → D → (List D → Prop) → Prop
  | .tup xs, .tup ys, R => R (zipD xs ys)
  | .lst xs, .lst ys, R => R (zipD xs ys)
  | _, _, _ => False
def dZip (ta tb : DW D) : DW (List D) := fun ρ R Z => ta ρ (fun x => tb ρ (fun y => gZip x y R) Z) Z
theorem i_zip (hg : Gl X "zip") (hm : X.mg "zip" = none) (ha : PE X e (lE X F E ta)) (hb : PE X e2 (lE X F E tb))
    (hs : starEach [e, e2] X.env = (false, eval e X.env) :: starEach [e2] X.env := by rfl) (hs2 : starEach [e2] X.env = (false, eval e2 X.env) :: starEach [] X.env := by rfl) (hpl : (backTo pos (starEach [e2] X.env)).any (·.1) = false := by rfl) :
    PI X (.Tuple elts kk tpos) (.Call (.Name "zip" p) [e, e2] [] pos) (lI X F E true true (dZip ta tb)) :=
  (RZ.pi_zipA hg hm (pa_cons ha (pa_cons hb pa_nil hs2) hs) hs hpl).imp fun σ H Q ⟨ρ, G, R, Z, E0, h, k, z⟩ => by
    refine ⟨ρ, G, _, Z, E0, h, fun dx hd v H1 G1 E1 s1 k1 r1 => ?_, z⟩
    refine ⟨ρ, G1, _, Z, E1, hd, fun dy hd2 v2 H2 G2 E2 s2 k2 r2 => ?_, z.mono s1⟩
    cases dx with
    | tup xs => cases dy with
      | tup ys =>
        cases r1 with
        | tup hx zx rx => cases r2 with
          | tup hy zy ry =>
            have hx' := hx.mono s2
            refine ⟨_, _, _, _, rfl, .inr ⟨Same.seqT E2.sub hx', Same.seqT E2.sub hy, ?_⟩⟩
            refine k _ hd2 _ _ _ E2 (s1.trans s2) (k1.trans k2) (by rw [zipD_length, rx.length]; omega) fun ρ' σ' H' G' E' s' _ i => ?_
            have q1 := Same.seqT E'.sub (hx'.mono s')
            have q2 := Same.seqT E'.sub (hy.mono s')
            refine ⟨fun hi => ⟨_, _, q1, q2, by rw [zipD_length, rx.length, ry.length] at hi; omega⟩, fun d hd => ?_⟩
            obtain ⟨x, y, h1, h2, rfl⟩ := zipD_get _ _ _ _ hd
            obtain ⟨u, hu, ru⟩ := rx.get' h1
            obtain ⟨w, hw, rw'⟩ := ry.get' h2
            refine ⟨⟨_, _, u, w, q1, q2, hu, hw⟩, fun x' H3 hy3 => ?_⟩
            obtain ⟨T, x1, y1, rfl, nT, rfl, f1, f2⟩ := hy3
            have e1 := f1 _ q1
            have e2 := f2 _ q2
            rw [hu] at e1
            rw [hw] at e2
            cases e1
            cases e2
            exact pair_new E' nT ((ru.mono s2).mono s') (rw'.mono s')
      | _ => exact hd2.elim
    | lst xs => cases dy with
      | lst ys =>
        cases r1 with
        | lst hx zx rx => cases r2 with
          | lst hy zy ry =>
            have hx' := s2 _ _ hx
            refine ⟨_, _, _, _, rfl, .inl ⟨.inl (.inl (E2.sub _ _ hx')), .inl (.inl (E2.sub _ _ hy)), ?_⟩⟩
            refine k _ hd2 _ _ _ E2 (s1.trans s2) (k1.trans k2) (by rw [zipD_length, rx.length]; omega) fun ρ' σ' H' G' E' s' _ i => ?_
            have q1 : SqL X.K H' _ _ := .inl (.inl (E'.sub _ _ (s' _ _ hx')))
            have q2 : SqL X.K H' _ _ := .inl (.inl (E'.sub _ _ (s' _ _ hy)))
            refine ⟨fun hi => ⟨_, _, q1, q2, by rw [zipD_length, rx.length, ry.length] at hi; omega⟩, fun d hd => ?_⟩
            obtain ⟨x, y, h1, h2, rfl⟩ := zipD_get _ _ _ _ hd
            obtain ⟨u, hu, ru⟩ := rx.get' h1
            obtain ⟨w, hw, rw'⟩ := ry.get' h2
            refine ⟨⟨_, _, u, w, q1, q2, hu, hw⟩, fun x' H3 hy3 => ?_⟩
            obtain ⟨T, x1, y1, rfl, nT, rfl, f1, f2⟩ := hy3
            have e1 := f1 _ q1
            have e2 := f2 _ q2
            rw [hu] at e1
            rw [hw] at e2
            cases e1
            cases e2
            exact pair_new E' nT ((ru.mono s2).mono s') (rw'.mono s')
      | _ => exact hd2.elim
    | _ => exact hd2.elim
end
end DL
namespace DL
open PySem PySem.Spec PyProof.Rows L2

/-! ### comprehensions -/
abbrev E00 : EX := fun _ _ _ _ => False
def Z0 : Str → Prop := fun _ => False
theorem lX0 {X : Cx} {F : Fx} {G : Hp} {ρ : List S} {σ : St} : lX X F E00 G ρ σ Z0 := fun _ _ h => h.elim
def compD (tg : Tg) (tt : DW Bool) (te : DW D) (ρ : List S) : List D → (List D → Prop) → Prop
  | [], R => R []
  | d :: ds, R => bindT tg d ρ fun ρ1 => tt ρ1 (fun b => if b = true then te ρ1 (fun y => compD tg tt te ρ ds fun ys => R (y :: ys)) Z0 else compD tg tt te ρ ds R) Z0
def dComp (it : DW (List D)) (tg : Tg) (tt : DW Bool) (te : DW D) (vs : List Nat) : DW (List D) := fun ρ R Z => noOwn ρ vs = true ∧ it ρ (fun ds => compD tg tt te (wipeS ρ vs) ds R) Z
def dYes : DW Bool := fun _ R _ => R true
section
variable {X : Cx} {F : Fx} {E : EX} {elt tg iter e : Expr} {ifs : List Expr} {scope : Scope} {own : List (Str × Nat)} {tgt : Tg} {g : TG} {tt : DW Bool} {te : DW D} {it : DW (List D)} {wi : TI} {p pos : Pos} {st pr : Bool}
theorem slots_in {ρ : List S} {is vs : List Nat} (h : is.all (fun i => vs.contains i) = true) : ∀ i ∈ is, i ∈ vs := fun i hi => by
  have := List.all_eq_true.mp h i hi
  simpa using this
theorem wipe_noOwn {ρ : List S} {σ : St} {vs : List Nat} : ∀ (i : Nat) (s : S), i ∈ vs → (wipeS ρ vs)[i]? = some s → s.own = false := (wipe_sub ρ σ vs).fr
theorem EnvOk.writeD {K : PySem.W.Frag} {F : Fx} {ρ : List S} {σ : St} {H G : Hp} {p : Addr} {o : HO} (E : EnvOk K F ρ σ H G) (hg : G p = none) (h0 : F.H0 p = none) (no : ∀ (j : Nat) (t : S), ρ[j]? = some t → t.own = true → σ[j]? ≠ some (some (.ref p))) : EnvOk K F ρ σ (upd H p o) G where
  len := E.len
  sub := fun b u e => by rw [upd_ne (ne_of_none e hg)]; exact E.sub b u e
  g0 := E.g0
  gf := E.gf
  keep := fun b u e n => by rw [upd_ne (ne_of_none e h0)]; exact E.keep b u e n
  cupk := fun a e => by
    obtain ⟨x, y, h, c⟩ := E.cupk a e
    exact ⟨x, y, by rw [upd_ne (fun z => by subst z; exact E.cup0 _ e h0)]; exact h, c⟩
  cup0 := E.cup0
  slot := fun i s e => (E.slot i s e).move (Same.refl G) fun a u w x g h => by
    have ne : a ≠ p := fun z => by subst z; exact no i s e w x
    refine ⟨g, fun _ => by rw [upd_ne ne]; exact h, fun ec => ?_⟩
    subst ec
    obtain ⟨a', h1, _, _, c⟩ := E.slot i _ e
    rw [x] at h1
    cases h1
    exact c.move (upd_ne ne)
  dis := E.dis
/-- a turn of a comprehension's block, down to what is made of its item -/
theorem comp_step {ρ : List S} {σ : St} {vs : List Nat} {H3 G3 : Hp} {d : D} {x : V} {k : List S → Prop} {Q : St → Hp → Prop} (hg : GtOk X F pr tgt g) (hsl : tgt.slots.all (fun i => vs.contains i) = true)
    (E3 : EnvOk X.K F ρ σ H3 G3) (r : RpJ pr X.K G3 d x) (hb : bindT tgt d (wipeS ρ vs) k)
    (hq : ∀ ρ2 σ2, k ρ2 → EnvOk X.K F ρ2 σ2 H3 G3 → Sub ρ2 σ2 ρ σ vs → L2.wipe σ2 vs = L2.wipe σ vs → Q σ2 H3) : g x (L2.wipe σ vs) H3 Q := by
  refine hg (wipeS ρ vs) (L2.wipe σ vs) H3 G3 d x Q k (E3.wipe vs) r hb fun ρ2 σ2 hk E4 sub => ?_
  have s1 : Sub ρ2 σ2 (wipeS ρ vs) (L2.wipe σ vs) vs := sub.mono (slots_in (ρ := ρ) hsl) (wipe_noOwn (σ := σ))
  exact hq ρ2 σ2 hk E4 (s1.trans (wipe_sub ρ σ vs)) (wipe_eq s1)
/-- the new list of a comprehension, as it stands between the turns -/
structure Acc (K : PySem.W.Frag) (F : Fx) (ρ : List S) (σ : St) (H1 G1 : Hp) (Da : Addr) (n : Nat) (kk : List D → Prop) (H : Hp) : Prop where
  ex : ∃ G acc ys, EnvOk K F ρ σ H G ∧ Same G1 G ∧ Keep ρ σ H1 H G1 G ∧ H Da = some (.lst acc) ∧ G Da = none ∧ acc.length ≤ n ∧ Rps K G ys acc ∧ kk ys
/-- an item is made and put behind the list -/
theorem acc_push {K : PySem.W.Frag} {ρ ρ2 : List S} {σ σ2 : St} {vs : List Nat} {H1 G1 H G H6 G6 : Hp} {Da : Addr} {n : Nat} {acc : List V} {ys : List D} {y : D} {yv : V} {kk : List D → Prop}
    (nO : ∀ (i : Nat) (s : S), i ∈ vs → ρ[i]? = some s → s.own = false) (nD : H1 Da = none) (h0 : F.H0 Da = none) (no : ∀ (j : Nat) (t : S), ρ[j]? = some t → t.own = true → σ[j]? ≠ some (some (.ref Da)))
    (E2 : EnvOk K F ρ σ H G) (s2 : Same G1 G) (k2 : Keep ρ σ H1 H G1 G) (hD : H Da = some (.lst acc)) (gD : G Da = none) (hn : acc.length ≤ n) (rs : Rps K G ys acc)
    (sub : Sub ρ2 σ2 ρ σ vs) (E6 : EnvOk K F ρ2 σ2 H6 G6) (s6 : Same G G6) (k6 : Keep ρ2 σ2 H H6 G G6) (ry : Rp K G6 y yv) (hk : kk (ys ++ [y])) :
    H6 Da = some (.lst acc) ∧ Acc K F ρ σ H1 G1 Da (n + 1) kk (upd H6 Da (.lst (acc ++ [yv]))) := by
  have hD6 : H6 Da = some (.lst acc) := k6.obj _ _ hD fun i e x => not_own no sub i _ e rfl x
  have gD6 : G6 Da = none := k6.fre _ (by rw [hD]; simp) gD
  have E7 : EnvOk K F ρ σ H6 G6 := E2.outer E6 s6 sub nO
  have k7 := k2.trans (k6.outer sub)
  refine ⟨hD6, G6, acc ++ [yv], ys ++ [y], E7.writeD gD6 h0 no, s2.trans s6, ⟨fun b u e m => ?_, fun b e => ?_, k7.fre⟩, upd_same, gD6, by rw [List.length_append, List.length_singleton]; omega, (rs.mono s6).append (.cons ry .nil), hk⟩
  · rw [upd_ne (ne_of_none e nD)]
    exact k7.obj b u e m
  · rw [upd_ne (fun z => by subst z; exact e nD)]
    exact k7.trk b e
/-- .. or is not -/
theorem acc_skip {K : PySem.W.Frag} {ρ ρ2 : List S} {σ σ2 : St} {vs : List Nat} {H1 G1 H G H6 G6 : Hp} {Da : Addr} {n : Nat} {acc : List V} {ys : List D} {kk : List D → Prop}
    (nO : ∀ (i : Nat) (s : S), i ∈ vs → ρ[i]? = some s → s.own = false) (no : ∀ (j : Nat) (t : S), ρ[j]? = some t → t.own = true → σ[j]? ≠ some (some (.ref Da)))
    (E2 : EnvOk K F ρ σ H G) (s2 : Same G1 G) (k2 : Keep ρ σ H1 H G1 G) (hD : H Da = some (.lst acc)) (gD : G Da = none) (hn : acc.length ≤ n) (rs : Rps K G ys acc)
    (sub : Sub ρ2 σ2 ρ σ vs) (E6 : EnvOk K F ρ2 σ2 H6 G6) (s6 : Same G G6) (k6 : Keep ρ2 σ2 H H6 G G6) (hk : kk ys) :
    Acc K F ρ σ H1 G1 Da (n + 1) kk H6 := by
  have hD6 : H6 Da = some (.lst acc) := k6.obj _ _ hD fun i e x => not_own no sub i _ e rfl x
  have gD6 : G6 Da = none := k6.fre _ (by rw [hD]; simp) gD
  exact ⟨G6, acc, ys, E2.outer E6 s6 sub nO, s2.trans s6, k2.trans (k6.outer sub), hD6, gD6, by omega, rs.mono s6, hk⟩
theorem drop_cons {α : Type} {l : List α} {i : Nat} {x : α} (h : l[i]? = some x) : l.drop i = x :: l.drop (i + 1) := by
  obtain ⟨hl, e⟩ := List.getElem?_eq_some_iff.mp h
  rw [List.drop_eq_getElem_cons hl, e]
theorem keep_same {ρ : List S} {σ : St} {H H' G G' : Hp} (s : Same H H') (f : ∀ b : Addr, H b ≠ none → G b = none → G' b = none) : Keep ρ σ H H' G G' := ⟨fun b o e _ => s b o e, trk_of s, f⟩
theorem comp_lift {vs : List Nat} (hg : GtOk X F pr tgt g) (hsl : tgt.slots.all (fun i => vs.contains i) = true) : ∀ σ H Q, lF X F E (dComp it tgt tt te vs) σ H Q → tLc (lI X F E st pr it) g (lT X F E00 tt) (lE X F E00 te) vs σ H Q := by
  intro σ H Q ⟨ρ, G, R, Z, E0, ⟨hn, h⟩, k, z⟩
  have nO := noOwn_ok hn
  refine ⟨ρ, G, _, Z, E0, h, fun ds hds J H1 G1 E1 s1 k1 hlen rel Da nD => ?_, z⟩
  have no := E1.notOwn nD
  have h0 := E1.h0none nD
  refine ⟨fun i m H' => m = ds.length - i ∧ i ≤ ds.length ∧ Acc X.K F ρ σ H1 G1 Da i (fun ys => compD tgt tt te (wipeS ρ vs) (ds.drop i) (fun zs => R (ys ++ zs))) H',
    ⟨ds.length, by simp, Nat.zero_le _, G1, [], [], E1.new nD, Same.refl G1, .new nD, upd_same, E1.gnone nD, Nat.le_refl _, .nil, hds⟩, fun i m H' hW => ?_⟩
  obtain ⟨rfl, hi, G', acc, ys, E2, s2, k2, hD, gD, hacc, rs, hc⟩ := hW
  by_cases hlt : i < ds.length
  · -- a turn
    obtain ⟨d, hd⟩ : ∃ d, ds[i]? = some d := ⟨ds[i], List.getElem?_eq_getElem hlt⟩
    rw [drop_cons hd, compD] at hc
    obtain ⟨_, ry⟩ := rel ρ σ H' G' E2 s2 (fun _ => k2.obj) i
    obtain ⟨go, hy⟩ := ry d hd
    refine .inr ⟨go, fun H4 => Acc X.K F ρ σ H1 G1 Da (i + 1) (fun ys => compD tgt tt te (wipeS ρ vs) (ds.drop (i + 1)) (fun zs => R (ys ++ zs))) H4,
      fun H4 h4 => ⟨ds.length - (i + 1), by omega, rfl, hlt, h4⟩, fun x H3 hyld => ?_⟩
    obtain ⟨G3, E3, s3, k3, f3, rx⟩ := hy x H3 hyld
    refine comp_step (ρ := ρ) hg hsl E3 rx hc fun ρ2 σ2 hk E4 sub we => ⟨we, ?_⟩
    have k3' : Keep ρ2 σ2 H' H3 G' G3 := keep_same k3 f3
    refine ⟨ρ2, G3, _, Z0, E4, hk, fun b hb H5 G5 E5 s5 k5 => ?_, lX0⟩
    cases b with
    | true =>
      rw [if_pos rfl] at hb ⊢
      refine ⟨ρ2, G5, _, Z0, E5, hb, fun y hy yv H6 G6 E6 s6 k6 ryv => ?_, lX0⟩
      have q := acc_push (kk := fun ys => compD tgt tt te (wipeS ρ vs) (ds.drop (i + 1)) (fun zs => R (ys ++ zs))) nO nD h0 no E2 s2 k2 hD gD hacc rs sub E6 ((s3.trans s5).trans s6) ((k3'.trans k5).trans k6) ryv (by
        simpa [List.append_assoc] using hy)
      exact ⟨acc, q.1, by omega, q.2⟩
    | false =>
      rw [if_neg Bool.false_ne_true] at hb ⊢
      exact acc_skip nO no E2 s2 k2 hD gD hacc rs sub E5 (s3.trans s5) (k3'.trans k5) hb
  · have ei : i = ds.length := by omega
    subst ei
    obtain ⟨stop, _⟩ := rel ρ σ H' G' E2 s2 (fun _ => k2.obj) ds.length
    rw [List.drop_length, compD, List.append_nil] at hc
    exact .inl ⟨stop (Nat.le_refl _), k _ hc _ _ _ E2 (s1.trans s2) (k1.trans k2) ⟨Da, acc, rfl, by
      cases q : H Da with
      | none => rfl
      | some u => exact absurd nD (k1.trk Da (by rw [q]; simp)), gD, h0, hD, by omega, rs, no⟩⟩
/-- [elt for tg in iter if ..] -/
theorem f_lc {vs : List Nat} (hc : X.calm = true) (hN : X.N.Nodup) (hi : PI X tg iter (lI X F E st pr it)) (ok : BlkOk X.N X.env.scope scope own) (hgt : GtOk X F pr tgt g) (hsl : tgt.slots.all (fun i => (own.map (·.2)).contains i) = true)
    (hg : ∀ (s : Shared) (H : Hp) (C : Addr) (cl : List (Str × Addr)) (fp : List Addr), PG (X.blk s H scope (compEnvC scope cl C X.env) fp) tg g) (ht : ∀ (s : Shared) (H : Hp) (C : Addr) (cl : List (Str × Addr)) (fp : List Addr), PTs (X.blk s H scope (compEnvC scope cl C X.env) fp) ifs (lT X F E00 tt))
    (he : ∀ (s : Shared) (H : Hp) (C : Addr) (cl : List (Str × Addr)) (fp : List Addr), PE (X.blk s H scope (compEnvC scope cl C X.env) fp) elt (lE X F E00 te)) (hs : ∀ x, foldedSetIterable iter X.env x = pure x := by intro _; rfl) :
    PE X (.ListComp elt [⟨tg, iter, ifs, 0⟩] scope pos) (lF X F E (dComp it tgt tt te (own.map (·.2)))) :=
  (pe_lc hc hN hi ok hg ht he hs).imp (comp_lift hgt hsl)
/-- y = [..] on one line -/
theorem s_setLc (i : Nat) {y : Str} {py spos : Pos} (hc : X.calm = true) (hN : X.N.Nodup) (hy : X.N[i]? = some y) (hyl : X.env.scope.names.lookup y = some .local)
    (hsw : swapsWith (.ListComp elt [⟨tg, iter, ifs, 0⟩] scope pos) (some (.Name y py)) spos.line X.env = pure true) (hi : PI X tg iter (lI X F E st pr it)) (ok : BlkOk X.N X.env.scope scope own) (hgt : GtOk X F pr tgt g) (hsl : tgt.slots.all (fun i => (own.map (·.2)).contains i) = true)
    (hg : ∀ (s : Shared) (H : Hp) (C : Addr) (cl : List (Str × Addr)) (fp : List Addr), PG (X.blk s H scope (compEnvC scope cl C X.env) fp) tg g) (ht : ∀ (s : Shared) (H : Hp) (C : Addr) (cl : List (Str × Addr)) (fp : List Addr), PTs (X.blk s H scope (compEnvC scope cl C X.env) fp) ifs (lT X F E00 tt))
    (he : ∀ (s : Shared) (H : Hp) (C : Addr) (cl : List (Str × Addr)) (fp : List Addr), PE (X.blk s H scope (compEnvC scope cl C X.env) fp) elt (lE X F E00 te)) (hs : ∀ x, foldedSetIterable iter X.env x = pure x := by intro _; rfl) :
    PS X (.Assign [.Name y py] (.ListComp elt [⟨tg, iter, ifs, 0⟩] scope pos) spos) (lS X F E (dSetF i (dComp it tgt tt te (own.map (·.2))))) :=
  (ps_setLc hc hN hy hyl hsw hi ok hg ht he hs).imp fun D σ H ⟨ρ, G, B, E0, h, e⟩ => by
    refine comp_lift hgt hsl σ H _ ⟨ρ, G, _, _, E0, h, fun ds hds v H1 G1 E1 s1 k1 r => ?_, e.ex ρ σ⟩
    obtain ⟨a, vs, rfl, hs', ga, h0, ha, hz, rs, no⟩ := r
    exact e.nx _ hds _ H1 G1 (E1.setS ⟨a, vs, rfl, ga, h0, ha, hz, rs⟩ fun a' _ q j t _ e w => by cases q; exact no j t e w) s1
/-- .. its list frozen -/
theorem s_setLcP (i : Nat) {y : Str} {py spos : Pos} (hc : X.calm = true) (hN : X.N.Nodup) (hy : X.N[i]? = some y) (hyl : X.env.scope.names.lookup y = some .local)
    (hsw : swapsWith (.ListComp elt [⟨tg, iter, ifs, 0⟩] scope pos) (some (.Name y py)) spos.line X.env = pure true) (hi : PI X tg iter (lI X F E st pr it)) (ok : BlkOk X.N X.env.scope scope own) (hgt : GtOk X F pr tgt g) (hsl : tgt.slots.all (fun i => (own.map (·.2)).contains i) = true)
    (hg : ∀ (s : Shared) (H : Hp) (C : Addr) (cl : List (Str × Addr)) (fp : List Addr), PG (X.blk s H scope (compEnvC scope cl C X.env) fp) tg g) (ht : ∀ (s : Shared) (H : Hp) (C : Addr) (cl : List (Str × Addr)) (fp : List Addr), PTs (X.blk s H scope (compEnvC scope cl C X.env) fp) ifs (lT X F E00 tt))
    (he : ∀ (s : Shared) (H : Hp) (C : Addr) (cl : List (Str × Addr)) (fp : List Addr), PE (X.blk s H scope (compEnvC scope cl C X.env) fp) elt (lE X F E00 te)) (hs : ∀ x, foldedSetIterable iter X.env x = pure x := by intro _; rfl) :
    PS X (.Assign [.Name y py] (.ListComp elt [⟨tg, iter, ifs, 0⟩] scope pos) spos) (lS X F E (dSet i (fun ρ R Z => dComp it tgt tt te (own.map (·.2)) ρ (fun ds => R (.lst ds)) Z))) :=
  (ps_setLc hc hN hy hyl hsw hi ok hg ht he hs).imp fun D σ H ⟨ρ, G, B, E0, h, e⟩ => by
    refine comp_lift hgt hsl σ H _ ⟨ρ, G, _, _, E0, h, fun ds hds v H1 G1 E1 s1 k1 r => ?_, e.ex ρ σ⟩
    obtain ⟨a, vs, rfl, hs', ga, h0, ha, hz, rs, no⟩ := r
    have sn := same_new (o := .lst vs) ga
    exact e.nx _ hds _ H1 _ ((E1.freeze ha ga h0 no).setIm (.lst upd_same hz (rs.mono sn))) (s1.trans sn)

/-! ### for -/
def forD (tgt : Tg) (tb : DS) (B : DE) : List D → List S → Prop
  | [], ρ => B.nx ρ
  | d :: ds, ρ => bindT tgt d ρ fun ρ1 => tb { B with nx := forD tgt tb B ds, ct := forD tgt tb B ds, bk := B.nx } ρ1
def dFor (it : DW (List D)) (tgt : Tg) (tb : DS) : DS := fun B ρ => it ρ (fun ds => forD tgt tb B ds ρ) (B.ex ρ)
theorem s_for {body : List Stmt} {tb : DS} (hp : PassesOwn (model X.prog X.w) X.A X.env X.xe) (hc : X.calm = true) (hi : PI X tg iter (lI X F E true pr it)) (hgt : GtOk X F pr tgt g) (hg : PG X tg g) (hb : PSs X body (lS X F E tb))
    (hs : ∀ x, foldedSetIterable iter X.env x = pure x := by intro _; rfl) : PS X (.For tg iter body [] pos) (lS X F E (dFor it tgt tb)) :=
  (ps_for hp hc hi hg hb hs).imp fun D σ H ⟨ρ, G, B, E0, h, e⟩ => by
    refine ⟨ρ, G, _, _, E0, h, fun ds hds J H1 G1 E1 s1 k1 hlen rel => ?_, e.ex ρ σ⟩
    refine ⟨fun i m σ' H' => m = ds.length - i ∧ i ≤ ds.length ∧ ∃ ρ' G', EnvOk X.K F ρ' σ' H' G' ∧ Same G1 G' ∧ forD tgt tb B (ds.drop i) ρ', ⟨ds.length, by simp, Nat.zero_le _, ρ, G1, E1, Same.refl G1, hds⟩, fun i m σ' H' hW => ?_⟩
    obtain ⟨rfl, hi', ρ', G', E2, s2, hf⟩ := hW
    by_cases hlt : i < ds.length
    · obtain ⟨d, hd⟩ : ∃ d, ds[i]? = some d := ⟨ds[i], List.getElem?_eq_getElem hlt⟩
      rw [drop_cons hd, forD] at hf
      obtain ⟨_, ry⟩ := rel ρ' σ' H' G' E2 s2 (fun h => by cases h) i
      obtain ⟨go, hy⟩ := ry d hd
      refine .inr ⟨go, fun σ3 H3 => ∃ ρ' G', EnvOk X.K F ρ' σ3 H3 G' ∧ Same G1 G' ∧ forD tgt tb B (ds.drop (i + 1)) ρ', fun σ3 H3 h3 => ⟨ds.length - (i + 1), by omega, rfl, hlt, h3⟩, fun x H3 hyld => ?_⟩
      obtain ⟨G3, E3, s3, _, _, rx⟩ := hy x H3 hyld
      refine hgt ρ' σ' H3 G3 d x _ _ E3 rx hf fun ρ2 σ2 hk E4 _ => ?_
      have s13 := s2.trans s3
      exact ⟨ρ2, G3, _, E4, hk, fun ρ5 h5 σ5 H5 G5 E5 s5 => ⟨ρ5, G5, E5, s13.trans s5, h5⟩, e.rt, fun ρ5 h5 σ5 H5 G5 E5 s5 => e.nx ρ5 h5 σ5 H5 G5 E5 ((s1.trans s13).trans s5), fun ρ5 h5 σ5 H5 G5 E5 s5 => ⟨ρ5, G5, E5, s13.trans s5, h5⟩, fun ρ5 σ5 => (e.ex ρ5 σ5).mono (s1.trans s13)⟩
    · have ei : i = ds.length := by omega
      subst ei
      obtain ⟨stop, _⟩ := rel ρ' σ' H' G' E2 s2 (fun h => by cases h) ds.length
      rw [List.drop_length, forD] at hf
      exact .inl ⟨stop (Nat.le_refl _), e.nx ρ' hf σ' H' G' E2 (s1.trans s2)⟩
end
end DL
namespace DL
open PySem PySem.Spec PyProof.Rows L2

section
variable {X : Cx} {F : Fx} {E : EX} {e : Expr} {ta : DW D} {tl : DW (List D)} {p pos : Pos} {x : Str}
/-! ### one list as the argument, read -/
def CallL (X : Cx) (F : Fx) (r : List V → Hp → VK → Prop) (g : List D → (D → Prop) → Prop) : Prop := ∀ (ρ : List S) (σ : St) (H G : Hp) (a : Addr) (ds : List D) (vs : List V) (R : D → Prop) (Q : VK), EnvOk X.K F ρ σ H G → H a = some (.lst vs) → vs.length ≤ sizeLine → Rps X.K G ds vs → g ds R →
  (∀ d, R d → ∀ v H' G', EnvOk X.K F ρ σ H' G' → Same G G' → Keep ρ σ H H' G G' → Rp X.K G' d v → Q v H') → r [.ref a] H Q
def dOn (g : List D → (D → Prop) → Prop) (t : DW (List D)) : DW D := fun ρ R Z => t ρ (fun ds => g ds R) Z
theorem onL_lift {r : List V → Hp → VK → Prop} {g : List D → (D → Prop) → Prop} (hg : CallL X F r g) : ∀ σ H Q, lE X F E (dOn g tl) σ H Q → tCB r (tCons (lL X F E tl) tNil) σ H Q := fun σ H Q ⟨ρ, G, R, Z, E0, h, k, z⟩ =>
  ⟨ρ, G, _, Z, E0, h, fun ds hds v H1 G1 E1 s1 k1 rl => by
    obtain ⟨a, vs, rfl, hz, rs, kk⟩ := rl
    exact hg ρ σ H1 G1 a ds vs R Q E1 (kk H1 (KeepO.refl ρ σ H1)) hz rs hds fun d hd v H2 G2 E2 s2 k2 r => k d hd v H2 G2 E2 (s1.trans s2) (k1.trans k2) r, z⟩
theorem e_onL {id : String} {r : List V → Hp → VK → Prop} {g : List D → (D → Prop) → Prop} (hc : CallR X (.builtin id) r) (hd : CallL X F r g) (hg : Gl X x) (hm : X.mg x = none) (hv : bootBuiltins x = some (.builtin id)) (ha : PE X e (lL X F E tl)) (hn : x ≠ "__name__" := by decide) (hdb : (x == ("__debug__" : Str)) = false := by decide)
    (he : starEach [e] X.env = (false, eval e X.env) :: starEach [] X.env := by rfl) (hpl : (backTo pos (starEach [] X.env)).any (·.1) = false := by rfl) : PE X (.Call (.Name x p) [e] [] pos) (lE X F E (dOn g tl)) :=
  (pe_callB hc hg hm hv (pa_cons ha pa_nil he) hn hdb he hpl).imp (onL_lift hd)
theorem e_onLTy {T : String} {r : List V → Hp → VK → Prop} {g : List D → (D → Prop) → Prop} (hc : CallR X (.type T) r) (hd : CallL X F r g) (hg : Gl X x) (hm : X.mg x = none) (hv : bootBuiltins x = some (.type T)) (ha : PE X e (lL X F E tl)) (hn : x ≠ "__name__" := by decide) (hdb : (x == ("__debug__" : Str)) = false := by decide)
    (he : starEach [e] X.env = (false, eval e X.env) :: starEach [] X.env := by rfl) (hpl : (backTo pos (starEach [] X.env)).any (·.1) = false := by rfl) : PE X (.Call (.Name x p) [e] [] pos) (lE X F E (dOn g tl)) :=
  (pe_callTy hc hg hm hv (pa_cons ha pa_nil he) hn hdb he hpl).imp (onL_lift hd)
/-! all, any -/
def unBls : List D → Option (List Bool)
  | [] => some []
  | .bl b :: r => (unBls r).map (b :: ·)
  | _ => none
theorem unBls_map : ∀ bs : List Bool, unBls (bs.map D.bl) = some bs
  | [] => rfl
  | b :: bs => by
    show (unBls (bs.map D.bl)).map (b :: ·) = _
    rw [unBls_map bs]
    rfl
theorem unBls_of : ∀ {ds : List D} {bs : List Bool}, unBls ds = some bs → ds = bs.map D.bl := by
  intro ds
  induction ds with
  | nil => intro bs h; cases h; rfl
  | cons d r ih =>
    intro bs h
    cases d with
    | bl b =>
      have h' : (unBls r).map (b :: ·) = some bs := h
      cases q : unBls r with
      | none => rw [q] at h'; cases h'
      | some cs =>
        rw [q] at h'
        cases h'
        rw [ih q]
        rfl
    | _ => cases h
def gAll (ds : List D) (R : D → Prop) : Prop := ∃ bs, unBls ds = some bs ∧ R (.bl (bs.all id))
def gAny (ds : List D) (R : D → Prop) : Prop := ∃ bs, unBls ds = some bs ∧ R (.bl (bs.any id))
theorem cl_all : CallL X F (rAll X.K) gAll := by
  intro ρ σ H G a ds vs R Q E0 ha hz rs h k
  obtain ⟨bs, e, q⟩ := h
  cases unBls_of e
  cases rs.bls
  exact ⟨a, bs, rfl, .inl (.inl ha), k _ q _ H G E0 (Same.refl G) .rfl (.bl _)⟩
theorem cl_any : CallL X F (rAny X.K) gAny := by
  intro ρ σ H G a ds vs R Q E0 ha hz rs h k
  obtain ⟨bs, e, q⟩ := h
  cases unBls_of e
  cases rs.bls
  exact ⟨a, bs, rfl, .inl (.inl ha), k _ q _ H G E0 (Same.refl G) .rfl (.bl _)⟩
/-! sum -/
theorem sum_tup_raw {prog : Program} {w : World} {A : Around} {E : Value → Shared → Prop} {s : Shared} {l : Addr} {its : List Value} {ns : List Int} {Q : Value → Shared → Prop} (hh : A.handled = none) (hl : s.heap.IsTuple l its.toArray) (hi : IntsAre its ns)
    (h : ∀ h' tk t', (∀ b o, s.heap.get? b = some o → h'.get? b = some o) → Q (.int ns.sum t') { s with heap := h', toks := tk }) : wpAny (model prog w) A (call (.builtin "sum") [.ref l]) Q E s := by
  obtain ⟨xs, e⟩ := hi.allInts.items
  have hn : numsOf (intItems xs).toList = ns := by rw [← e]; exact hi.numsOf
  rw [nums_intItems] at hn
  rw [e] at hl
  obtain ⟨ol, hol, _⟩ := id hl
  have hlt : l < s.heap.objs.size := Heap.lt_size hol
  refine call_sum_walkG (wpAny_pyIter_tuple hl ?_)
  have hne : l ≠ s.heap.objs.size := Nat.ne_of_lt hlt
  refine ⟨_, [_, l], [_], _, _, _, numAt xs, rfl, Walks.tuple (A := A.in1) hh _ l hne (intItems xs), ⟨⟨_, Heap.get?_push_size _ rfl, rfl, rfl⟩, hl.push _⟩, fun c hc => ?_, (fun _ _ => intItems_at), fun h' tk t' hk => ?_⟩
  · show c < (s.heap.push _).objs.size
    rw [Heap.size_push]
    rcases List.mem_cons.mp hc with rfl | hc
    · exact Nat.lt_succ_self _
    · rcases List.mem_cons.mp hc with rfl | hc
      · exact Nat.lt_succ_of_lt hlt
      · cases hc
  · have := h h' tk t' (fun b o q => hk b o (fun z => by
      rcases List.mem_cons.mp z with z | z
      · rw [z] at q
        exact absurd (Heap.lt_size q) (Nat.lt_irrefl _)
      · cases z) (Heap.get?_push_of_some _ q))
    rw [show (intItems xs).size = xs.size by simp [intItems], preSum_eq, List.take_of_length_le (by simp), hn]
    exact this
def rSumA (K : PySem.W.Frag) : List V → Hp → VK → Prop := fun vs H Q => ∃ (a : Addr) (ns : List Int), vs = [V.ref a] ∧ (SqL K H a (ns.map V.int) ∨ SqT K H a (ns.map V.int)) ∧ Q (.int ns.sum) H
theorem cr_sumA (hc : X.calm = true) : CallR X (.builtin "sum") (rSumA X.K) := by
  intro pins s σ H vs us Q I r h
  obtain ⟨a, ns, rfl, hs | hs, q⟩ := h
  · exact cr_sum hc pins s σ H _ us Q I r ⟨a, ns, rfl, hs, q⟩
  · obtain ⟨its, rv, hl, _⟩ := I.tuple hs
    rw [Vals.ref1 r]
    exact sum_tup_raw (I.ok.hd hc) hl rv.ints fun h' tk t' hk => ⟨.int _, H, I.kept hk, ⟨_, rfl⟩, q⟩
def gSum : DA
  | [.tup ds], R => ∃ ns, unInts ds = some ns ∧ R (.int ns.sum)
  | [.lst ds], R => ∃ ns, unInts ds = some ns ∧ R (.int ns.sum)
  | _, _ => False
theorem cd_sum : CallD X F (rSumA X.K) gSum := by
  intro ρ σ H G ds vs R Q E0 rs h k
  match ds, rs, h with
  | [.tup xs], .cons (.tup hx _ r) .nil, ⟨ns, e, q⟩ =>
    cases unInts_of e
    cases r.ints
    exact ⟨_, ns, rfl, .inr (Same.seqT E0.sub hx), k _ q _ H G E0 (Same.refl G) .rfl (.int _)⟩
  | [.lst xs], .cons (.lst hx _ r) .nil, ⟨ns, e, q⟩ =>
    cases unInts_of e
    cases r.ints
    exact ⟨_, ns, rfl, .inl (.inl (.inl (E0.sub _ _ hx))), k _ q _ H G E0 (Same.refl G) .rfl (.int _)⟩
  | [], _, h => exact h.elim
  | [.non], _, h => exact h.elim
  | [.bl _], _, h => exact h.elim
  | [.int _], _, h => exact h.elim
  | [.str _], _, h => exact h.elim
  | [.dk _ _], _, h => exact h.elim
  | [.dt _ _], _, h => exact h.elim
  | [.set _], _, h => exact h.elim
  | [.ref _], _, h => exact h.elim
  | d :: e :: r, _, h => cases d <;> exact h.elim
/-! abs, max, min of two ints; int; str of a text -/
def gAbs : DA
  | [.int i], R => R (.int (if i < 0 then -i else i))
  | _, _ => False
def on2 (g : Int → Int → Prop) : List D → Prop
  | [.int i, .int j] => g i j
  | _ => False
def gMax2 : DA := fun ds R => on2 (fun i j => R (.int (if j > i then j else i))) ds
def gMin2 : DA := fun ds R => on2 (fun i j => R (.int (if j < i then j else i))) ds
def gInt : DA
  | [.int i], R => R (.int i)
  | [.bl k], R => R (.int (if k then 1 else 0))
  | _, _ => False
def gStr : DA
  | [.str z], R => R (.str z)
  | _, _ => False
theorem rps1 {K : PySem.W.Frag} {G : Hp} {ds : List D} {v : V} (h : Rps K G ds [v]) : ∃ d, ds = [d] ∧ Rp K G d v := by
  cases h with
  | cons h r => cases r; exact ⟨_, rfl, h⟩
theorem cd_abs : CallD X F (fun xs H Q => ∃ i, xs = [.int i] ∧ Q (.int (if i < 0 then -i else i)) H) gAbs := by
  intro ρ σ H G ds vs R Q E0 rs h k
  match ds, rs, h with
  | [.int i], .cons (.int _) .nil, h => exact ⟨i, rfl, k _ h _ H G E0 (Same.refl G) .rfl (.int _)⟩
  | [], _, h => exact h.elim
  | .int _ :: _ :: _, _, h => exact h.elim
  | .non :: _, _, h => exact h.elim
  | .bl _ :: _, _, h => exact h.elim
  | .str _ :: _, _, h => exact h.elim
  | .tup _ :: _, _, h => exact h.elim
  | .lst _ :: _, _, h => exact h.elim
  | .dk _ _ :: _, _, h => exact h.elim
  | .dt _ _ :: _, _, h => exact h.elim
  | .set _ :: _, _, h => exact h.elim
  | .ref _ :: _, _, h => exact h.elim
theorem two_ints {K : PySem.W.Frag} {G : Hp} {ds : List D} {vs : List V} {g : Int → Int → Prop} (rs : Rps K G ds vs) (h : on2 g ds) : ∃ i j, vs = [.int i, .int j] ∧ ds = [.int i, .int j] ∧ g i j := by
  cases rs with
  | nil => exact h.elim
  | cons r1 rs => cases rs with
    | nil => cases r1 <;> exact h.elim
    | cons r2 rs => cases rs with
      | nil => cases r1 <;> first | (cases r2 <;> first | exact ⟨_, _, rfl, rfl, h⟩ | exact h.elim)
      | cons _ _ => cases r1 <;> first | (cases r2 <;> exact h.elim)
theorem cd_max2 : CallD X F (fun xs H Q => ∃ i j, xs = [.int i, .int j] ∧ Q (.int (if j > i then j else i)) H) gMax2 := by
  intro ρ σ H G ds vs R Q E0 rs h k
  obtain ⟨i, j, rfl, rfl, q⟩ := two_ints (g := fun i j => R (.int (if j > i then j else i))) rs h
  exact ⟨i, j, rfl, k _ q _ H G E0 (Same.refl G) .rfl (.int _)⟩
theorem cd_min2 : CallD X F (fun xs H Q => ∃ i j, xs = [.int i, .int j] ∧ Q (.int (if j < i then j else i)) H) gMin2 := by
  intro ρ σ H G ds vs R Q E0 rs h k
  obtain ⟨i, j, rfl, rfl, q⟩ := two_ints (g := fun i j => R (.int (if j < i then j else i))) rs h
  exact ⟨i, j, rfl, k _ q _ H G E0 (Same.refl G) .rfl (.int _)⟩
theorem cd_int : CallD X F (fun xs H Q => (∃ i, xs = [.int i] ∧ Q (.int i) H) ∨ ∃ k, xs = [.bl k] ∧ Q (.int (if k then 1 else 0)) H) gInt := by
  intro ρ σ H G ds vs R Q E0 rs h k
  match ds, rs, h with
  | [.int i], .cons (.int _) .nil, h => exact .inl ⟨i, rfl, k _ h _ H G E0 (Same.refl G) .rfl (.int _)⟩
  | [.bl i], .cons (.bl _) .nil, h => exact .inr ⟨i, rfl, k _ h _ H G E0 (Same.refl G) .rfl (.int _)⟩
  | [], _, h => exact h.elim
  | .int _ :: _ :: _, _, h => exact h.elim
  | .bl _ :: _ :: _, _, h => exact h.elim
  | .non :: _, _, h => exact h.elim
  | .str _ :: _, _, h => exact h.elim
  | .tup _ :: _, _, h => exact h.elim
  | .lst _ :: _, _, h => exact h.elim
  | .dk _ _ :: _, _, h => exact h.elim
  | .dt _ _ :: _, _, h => exact h.elim
  | .set _ :: _, _, h => exact h.elim
  | .ref _ :: _, _, h => exact h.elim
theorem cd_str : CallD X F (fun xs H Q => ∃ a, xs = [.str a] ∧ Q (.str a) H) gStr := by
  intro ρ σ H G ds vs R Q E0 rs h k
  match ds, rs, h with
  | [.str i], .cons (.str _) .nil, h => exact ⟨i, rfl, k _ h _ H G E0 (Same.refl G) .rfl (.str _)⟩
  | [], _, h => exact h.elim
  | .str _ :: _ :: _, _, h => exact h.elim
  | .int _ :: _, _, h => exact h.elim
  | .bl _ :: _, _, h => exact h.elim
  | .non :: _, _, h => exact h.elim
  | .tup _ :: _, _, h => exact h.elim
  | .lst _ :: _, _, h => exact h.elim
  | .dk _ _ :: _, _, h => exact h.elim
  | .dt _ _ :: _, _, h => exact h.elim
  | .set _ :: _, _, h => exact h.elim
  | .ref _ :: _, _, h => exact h.elim
/-! tuple(list), list(..) -/
theorem cl_tuple : CallL X F (rTupF X.K) (fun ds R => R (.tup ds)) := by
  intro ρ σ H G a ds vs R Q E0 ha hz rs h k
  refine ⟨a, vs, rfl, .inl ⟨.inl (.inl ha), fun p o np hd => ?_⟩⟩
  have sn := same_new (o := .frz o (.tup vs)) (E0.gnone np)
  exact k _ h _ _ _ (E0.frz np) sn (.frz np) (.tup (.new hd) hz (rs.mono sn))
/-- tuple(x), list(x) of a list or a tuple -/
def gTuple : DA
  | [.lst ds], R => R (.tup ds)
  | [.tup ds], R => R (.tup ds)
  | _, _ => False
theorem cd_tuple : CallD X F (rTupF X.K) gTuple := by
  intro ρ σ H G ds vs R Q E0 rs h k
  match ds, rs, h with
  | [.lst xs], .cons (.lst hx hz r) .nil, h =>
    rename_i vs
    refine ⟨_, vs, rfl, .inl ⟨.inl (.inl (E0.sub _ _ hx)), fun p o np hd => ?_⟩⟩
    have sn := same_new (o := .frz o (.tup vs)) (E0.gnone np)
    exact k _ h _ _ _ (E0.frz np) sn (.frz np) (.tup (.new hd) hz (r.mono sn))
  | [.tup xs], .cons (.tup hx hz r) .nil, h => exact ⟨_, _, rfl, .inr ⟨Same.seqT E0.sub hx, k _ h _ H G E0 (Same.refl G) .rfl (.tup hx hz r)⟩⟩
  | [], _, h => exact h.elim
  | .lst _ :: _ :: _, _, h => exact h.elim
  | .tup _ :: _ :: _, _, h => exact h.elim
  | .str _ :: _, _, h => exact h.elim
  | .int _ :: _, _, h => exact h.elim
  | .bl _ :: _, _, h => exact h.elim
  | .non :: _, _, h => exact h.elim
  | .dk _ _ :: _, _, h => exact h.elim
  | .dt _ _ :: _, _, h => exact h.elim
  | .set _ :: _, _, h => exact h.elim
  | .ref _ :: _, _, h => exact h.elim
/-- a new list out of arguments -/
def CallF (X : Cx) (F : Fx) (r : List V → Hp → VK → Prop) (g : List D → (List D → Prop) → Prop) : Prop := ∀ (ρ : List S) (σ : St) (H G : Hp) (ds : List D) (vs : List V) (R : List D → Prop) (Q : VK), EnvOk X.K F ρ σ H G → Rps X.K G ds vs → g ds R →
  (∀ d, R d → ∀ v H' G', EnvOk X.K F ρ σ H' G' → Same G G' → Keep ρ σ H H' G G' → RelF X.K F d v ρ σ H H' G' → Q v H') → r vs H Q
def dArgsF (g : List D → (List D → Prop) → Prop) (ts : DW (List D)) : DW (List D) := fun ρ R Z => ts ρ (fun ds => g ds R) Z
theorem RelF.new {K : PySem.W.Frag} {F : Fx} {ρ : List S} {σ : St} {H G : Hp} {p : Addr} {ds : List D} {vs : List V} (E0 : EnvOk K F ρ σ H G) (np : H p = none) (hz : vs.length ≤ sizeLine) (rs : Rps K G ds vs) : RelF K F ds (.ref p) ρ σ H (upd H p (.lst vs)) G :=
  ⟨p, vs, rfl, np, E0.gnone np, E0.h0none np, upd_same, hz, rs, E0.notOwn np⟩
theorem RelF.back {K : PySem.W.Frag} {F : Fx} {ρ : List S} {σ : St} {H H0 H' G G0 G' : Hp} {ds : List D} {v : V} (k : Keep ρ σ H0 H G0 G) (r : RelF K F ds v ρ σ H H' G') : RelF K F ds v ρ σ H0 H' G' := by
  obtain ⟨a, vs, e, h0, r⟩ := r
  exact ⟨a, vs, e, by
    cases q : H0 a with
    | none => rfl
    | some u => exact absurd h0 (k.trk a (by rw [q]; simp)), r⟩
theorem f_callTy {T : String} {r : List V → Hp → VK → Prop} {g : List D → (List D → Prop) → Prop} {ts : DW (List D)} {es : List Expr} (hc : CallR X (.type T) r) (hd : CallF X F r g) (hg : Gl X x) (hm : X.mg x = none) (hv : bootBuiltins x = some (.type T)) (ha : PA X (e :: es) (lA X F E ts)) (hn : x ≠ "__name__" := by decide) (hdb : (x == ("__debug__" : Str)) = false := by decide)
    (he : starEach (e :: es) X.env = (false, eval e X.env) :: starEach es X.env := by rfl) (hpl : (backTo pos (starEach es X.env)).any (·.1) = false := by rfl) : PE X (.Call (.Name x p) (e :: es) [] pos) (lF X F E (dArgsF g ts)) :=
  (pe_callTy hc hg hm hv ha hn hdb he hpl).imp fun σ H Q ⟨ρ, G, R, Z, E0, h, k, z⟩ =>
    ⟨ρ, G, _, Z, E0, h, fun ds hds vs H1 G1 E1 s1 k1 rs => hd ρ σ H1 G1 ds vs R Q E1 rs hds fun d hd v H2 G2 E2 s2 k2 r => k d hd v H2 G2 E2 (s1.trans s2) (k1.trans k2) (r.back k1), z⟩
def gList (ds : List D) (R : List D → Prop) : Prop := match ds with
  | [.lst xs] => R xs
  | [.tup xs] => R xs
  | _ => False
theorem cf_list : CallF X F (fun xs H Q => ∃ p ys, xs = [.ref p] ∧ (SqL X.K H p ys ∨ SqT X.K H p ys) ∧ ∀ l, H l = none → Q (.ref l) (upd H l (.lst ys))) gList := by
  intro ρ σ H G ds vs R Q E0 rs h k
  match ds, rs, h with
  | [.lst xs], .cons (.lst hx hz r) .nil, h => exact ⟨_, _, rfl, .inl (.inl (.inl (E0.sub _ _ hx))), fun p np => k _ h _ _ _ (E0.new np) (Same.refl G) (.new np) (.new E0 np hz r)⟩
  | [.tup xs], .cons (.tup hx hz r) .nil, h => exact ⟨_, _, rfl, .inr (Same.seqT E0.sub hx), fun p np => k _ h _ _ _ (E0.new np) (Same.refl G) (.new np) (.new E0 np hz r)⟩
  | [], _, h => exact h.elim
  | .lst _ :: _ :: _, _, h => exact h.elim
  | .tup _ :: _ :: _, _, h => exact h.elim
  | .str _ :: _, _, h => exact h.elim
  | .int _ :: _, _, h => exact h.elim
  | .bl _ :: _, _, h => exact h.elim
  | .non :: _, _, h => exact h.elim
  | .dk _ _ :: _, _, h => exact h.elim
  | .dt _ _ :: _, _, h => exact h.elim
  | .set _ :: _, _, h => exact h.elim
  | .ref _ :: _, _, h => exact h.elim
end
end DL
namespace DL
open PySem PySem.Spec PyProof.Rows L2

/-! ### ascending lists of unlike ints -/
def insU (x : Int) : List Int → List Int
  | [] => [x]
  | y :: ys => if x < y then x :: y :: ys else if x = y then y :: ys else y :: insU x ys
def sortU (ns : List Int) : List Int := ns.foldr insU []
theorem mem_insU {x k : Int} : ∀ {l : List Int}, k ∈ insU x l ↔ k = x ∨ k ∈ l
  | [] => by simp [insU]
  | y :: ys => by
    unfold insU
    split
    · simp
    · split
      · rename_i h; subst h; simp
      · rw [List.mem_cons, mem_insU (l := ys), List.mem_cons]
        constructor
        · rintro (h | h | h)
          · exact .inr (.inl h)
          · exact .inl h
          · exact .inr (.inr h)
        · rintro (h | h | h)
          · exact .inr (.inl h)
          · exact .inl h
          · exact .inr (.inr h)
theorem mem_sortU {k : Int} : ∀ {ns : List Int}, k ∈ sortU ns ↔ k ∈ ns
  | [] => by simp [sortU]
  | n :: ns => by
    show k ∈ insU n (sortU ns) ↔ _
    rw [mem_insU, mem_sortU (ns := ns), List.mem_cons]
theorem insU_asc {x : Int} : ∀ {l : List Int}, l.Pairwise (· < ·) → (insU x l).Pairwise (· < ·)
  | [], _ => by simp [insU]
  | y :: ys, h => by
    have h' := List.pairwise_cons.mp h
    unfold insU
    split
    · rename_i c
      refine List.pairwise_cons.mpr ⟨fun z hz => ?_, h⟩
      rcases List.mem_cons.mp hz with rfl | hz
      · exact c
      · have := h'.1 z hz; omega
    · split
      · exact h
      · rename_i c1 c2
        refine List.pairwise_cons.mpr ⟨fun z hz => ?_, insU_asc h'.2⟩
        rcases mem_insU.mp hz with rfl | hz
        · omega
        · exact h'.1 z hz
theorem sortU_asc : ∀ ns : List Int, (sortU ns).Pairwise (· < ·)
  | [] => .nil
  | n :: ns => insU_asc (sortU_asc ns)
theorem asc_ext : ∀ {l m : List Int}, l.Pairwise (· < ·) → m.Pairwise (· < ·) → (∀ k, k ∈ l ↔ k ∈ m) → l = m
  | [], [], _, _, _ => rfl
  | [], y :: ys, _, _, h => by have := (h y).mpr List.mem_cons_self; simp at this
  | x :: xs, [], _, _, h => by have := (h x).mp List.mem_cons_self; simp at this
  | x :: xs, y :: ys, hl, hm, h => by
    have hl' := List.pairwise_cons.mp hl
    have hm' := List.pairwise_cons.mp hm
    have e : x = y := by
      have h1 := (h x).mp List.mem_cons_self
      have h2 := (h y).mpr List.mem_cons_self
      rcases List.mem_cons.mp h1 with q | q
      · exact q
      · rcases List.mem_cons.mp h2 with r | r
        · exact r.symm
        · have a := hm'.1 x q
          have b := hl'.1 y r
          omega
    subst e
    rw [asc_ext hl'.2 hm'.2 fun k => ⟨fun hk => by
      rcases List.mem_cons.mp ((h k).mp (List.mem_cons_of_mem _ hk)) with q | q
      · subst q; have := hl'.1 _ hk; omega
      · exact q, fun hk => by
      rcases List.mem_cons.mp ((h k).mpr (List.mem_cons_of_mem _ hk)) with q | q
      · subst q; have := hm'.1 _ hk; omega
      · exact q⟩]
theorem sortU_len (ns : List Int) : (sortU ns).length ≤ ns.length := by
  induction ns with
  | nil => exact Nat.le_refl _
  | cons n ns ih =>
    have : ∀ (x : Int) (l : List Int), (insU x l).length ≤ l.length + 1 := fun x l => by
      induction l with
      | nil => exact Nat.le_refl _
      | cons y ys ih =>
        unfold insU
        split
        · exact Nat.le_refl _
        · split
          · simp
          · simp only [List.length_cons]; omega
    have q := this n (sortU ns)
    show (insU n (sortU ns)).length ≤ ns.length + 1
    omega
theorem sortU_of_asc {l : List Int} (h : l.Pairwise (· < ·)) : sortU l = l := asc_ext (sortU_asc l) h fun _ => mem_sortU

/-! ### set(xs), sorted of it -/
section
variable {P : Program} {w : World} {A : Around} {E : Value → Shared → Prop} {s : Shared} {a : Addr}
/-- sorted(s), any number of members -/
theorem sorted_setA {S : Int → Bool} {n : Nat} {Q : Value → Shared → Prop} (R : SetR w s.heap a S n) (hh : A.handled = none) (hz : n ≤ sizeLine)
    (hQ : ∀ s' p (out : Array Value) (c : Nat) (ns : List Int), (∀ b o, s.heap.get? b = some o → s'.heap.get? b = some o) → s'.gens = s.gens → s'.os = s.os → s.heap.objs.size ≤ p →
      s'.heap.get? p = some (seqObj "list" out c) → IntsAre out.toList ns → ns.Pairwise (· < ·) → (∀ k, k ∈ ns ↔ S k = true) → ns.length = n → Q (.ref p) s') :
    wpAny (model P w) A (call (.builtin "sorted") [.ref a]) Q E s := by
  obtain ⟨o, es, ep, t, ho, hex, hd, g, nd, hm, hb, hf, hn, hr, hl⟩ := R
  refine Calls.call_function_entry kind_sorted plain_sorted entry_sorted (args_sorted1 _) ?_
  unfold Builtin.«sorted»
  refine wpAny_bind (m := checkCount "sorted" 1 1 _) (wpAny_pure ?_)
  refine wpAny_bind (collect_set (A := A.in1) hh ⟨o, ho, hex.1, hd⟩ hf hb hr hl fun s1 vs k1 hz1 g1 o1 pm => ?_)
  have hvl : vs.length = n := by rw [pm.length_eq, List.length_map, Array.length_toList]; exact hn
  have hI : IntsAre vs (vs.map Builtin.Re.reRawOf) := ints_of vs fun v hv => by
    obtain ⟨e, he, q⟩ := List.mem_map.mp (pm.mem_iff.mp hv)
    obtain ⟨k, tk, h1, _⟩ := g e he
    exact ⟨k, tk, by rw [← q]; exact h1⟩
  have pk : (vs.map Builtin.Re.reRawOf).Perm (es.toList.map keyOf) := by
    have q := pm.map Builtin.Re.reRawOf
    rw [List.map_map] at q
    exact q
  refine wpAny_bind (wpAny_newList ?_ (by rw [hvl]; exact hz))
  have hoL : (s1.heap.push (seqObj "list" vs.toArray 0)).get? s1.heap.objs.size = some (seqObj "list" vs.toArray 0) := Heap.get?_push_size _ rfl
  refine wpAny_bind (wpAny_holding (wpAny_call_entry slot_list_sort ⟨_, hoL, rfl⟩ entry_list_sort (SrtO.list_sort_ord (s := { s1 with heap := s1.heap.push (seqObj "list" vs.toArray 0) }) SrtO.swo_int hoL (by rw [hvl]; exact hz) (fun h2 => SrtO.ints_sortable hI h2) fun out h1 h2 => ⟨_, rfl, ?_⟩) (args_list_sort _)))
  obtain ⟨a1, a2, a3⟩ := SrtO.ints_out hI h1 h2
  obtain ⟨c, hc⟩ := sortedHeap_at (vs := vs) (out := out.toArray) hoL
  have pn : (out.map SrtO.iv).Perm (es.toList.map keyOf) := a2.trans pk
  refine wpAny_pure ⟨_, rfl, hQ _ s1.heap.objs.size out.toArray c (out.map SrtO.iv) (fun b u e => ?_) g1 o1 hz1 hc a1 (lt_of_le_nodup _ a3 (pn.nodup_iff.mpr nd)) (fun k => by rw [pn.mem_iff, ← hm k]) ?_⟩
  · have q := k1 b u e
    have hlt := Heap.lt_size q
    show (sortedHeap (s1.heap.push (seqObj "list" vs.toArray 0)) s1.heap.objs.size vs out.toArray).get? b = some u
    rw [sortedHeap_old (Nat.ne_of_lt hlt) (by rw [size_push']; exact Nat.lt_succ_of_lt hlt)]
    exact Heap.get?_push_of_some _ q
  · rw [pn.length_eq, List.length_map, Array.length_toList]; exact hn
end
end DL
namespace DL
open PySem PySem.Spec PyProof.Rows L2

section
variable {X : Cx} {F : Fx} {E : EX} {a b e : Expr} {ta tb : DW D} {tl : DW (List D)} {p pos p2 : Pos} {x : Str}
/-! ### one place -/
abbrev D1 := D → (D → Prop) → Prop
def dUn (g : D1) (t : DW D) : DW D := fun ρ R Z => t ρ (fun d => g d R) Z
def UnD (X : Cx) (F : Fx) (r : V → Hp → VK → Prop) (g : D1) : Prop := ∀ (ρ : List S) (σ : St) (H G : Hp) (d : D) (v : V) (R : D → Prop) (Q : VK), EnvOk X.K F ρ σ H G → Rp X.K G d v → g d R →
  (∀ d, R d → ∀ v H' G', EnvOk X.K F ρ σ H' G' → Same G G' → Keep ρ σ H H' G G' → Rp X.K G' d v → Q v H') → r v H Q
theorem e_un {op : UnaryOp} {r : V → Hp → VK → Prop} {g : D1} (ho : UnR X (unaryOp op) r) (hg : UnD X F r g) (ha : PE X a (lE X F E ta)) : PE X (.UnaryOp op a pos) (lE X F E (dUn g ta)) :=
  (pe_un ho ha).imp fun σ H Q ⟨ρ, G, R, Z, E0, h, k, z⟩ =>
    ⟨ρ, G, _, Z, E0, h, fun d hd v H1 G1 E1 s1 k1 r => hg ρ σ H1 G1 d v R Q E1 r hd fun d hd v H2 G2 E2 s2 k2 r => k d hd v H2 G2 E2 (s1.trans s2) (k1.trans k2) r, z⟩
def gNeg : D1
  | .int i, R => R (.int (-i))
  | _, _ => False
theorem und_neg : UnD X F (rU fun i => .int (-i)) gNeg := by
  intro ρ σ H G d v R Q E0 r h k
  cases d with
  | int i => cases r; exact ⟨i, rfl, k _ h _ H G E0 (Same.refl G) .rfl (.int _)⟩
  | _ => exact h.elim
theorem e_neg (ha : PE X a (lE X F E ta)) : PE X (.UnaryOp .USub a pos) (lE X F E (dUn gNeg ta)) := e_un un_neg und_neg ha

/-! ### a[i] -/
def gIx : D2
  | .lst ds, .int i, R => ∃ d, atI ds i = some d ∧ R d
  | .tup ds, .int i, R => ∃ d, atI ds i = some d ∧ R d
  | .str z, .int i, R => z.length ≤ sizeLine ∧ ∃ c, atI z.cps.toList i = some c ∧ R (.str ⟨#[c]⟩)
  | _, _, _ => False
theorem Rps.atI {K : PySem.W.Frag} {G : Hp} {ds : List D} {vs : List V} {i : Int} {d : D} (r : Rps K G ds vs) (h : atI ds i = some d) : ∃ v, L2.atI vs i = some v ∧ Rp K G d v := by
  unfold L2.atI at h ⊢
  rw [← r.length]
  cases q : ixN ds.length i with
  | none => rw [q] at h; cases h
  | some j =>
    rw [q] at h
    exact r.get' h
theorem opd_ix : OpD X F (rIx X.K) gIx := by
  intro ρ σ H G dx dy x y R Q E0 rx ry h k
  cases dy with
  | int i =>
    cases ry
    cases dx with
    | lst ds =>
      obtain ⟨d, hd, hR⟩ := h
      cases rx with
      | lst hx hz rs =>
        obtain ⟨v, hv, rv⟩ := rs.atI hd
        exact .inl ⟨_, _, i, v, rfl, rfl, .inl (.inl (E0.sub _ _ hx)), hv, k _ hR _ H G E0 (Same.refl G) .rfl rv⟩
    | tup ds =>
      obtain ⟨d, hd, hR⟩ := h
      cases rx with
      | tup hx hz rs =>
        obtain ⟨v, hv, rv⟩ := rs.atI hd
        exact .inr (.inl ⟨_, _, i, v, rfl, rfl, Same.seqT E0.sub hx, hv, k _ hR _ H G E0 (Same.refl G) .rfl rv⟩)
    | str z =>
      obtain ⟨hz, c, hc, hR⟩ := h
      cases rx
      exact .inr (.inr ⟨z, i, c, rfl, rfl, hz, hc, k _ hR _ H G E0 (Same.refl G) .rfl (.str _)⟩)
    | _ => exact h.elim
  | _ => cases dx <;> exact h.elim
theorem e_ix (ha : PE X a (lE X F E ta)) (hb : PE X b (lE X F E tb)) (hs : PlainIx b := by intro _ _; rfl) : PE X (.Subscript a b pos) (lE X F E (dBin gIx ta tb)) :=
  (pe_ix ix_seq ha hb hs).imp (bin_lift opd_ix)
/-- of an own list -/
def dIxL (tl : DW (List D)) (tb : DW D) : DW D := fun ρ R Z => tl ρ (fun ds => tb ρ (fun d2 => ∃ i d, d2 = .int i ∧ atI ds i = some d ∧ R d) Z) Z
theorem e_ixL (ha : PE X a (lL X F E tl)) (hb : PE X b (lE X F E tb)) (hs : PlainIx b := by intro _ _; rfl) : PE X (.Subscript a b pos) (lE X F E (dIxL tl tb)) :=
  (pe_ix ix_list ha hb hs).imp fun σ H Q ⟨ρ, G, R, Z, E0, h, k, z⟩ => by
    refine ⟨ρ, G, _, Z, E0, h, fun ds hds v H1 G1 E1 s1 k1 rl => ?_, z⟩
    refine ⟨ρ, G1, _, Z, E1, hds, fun d2 hd2 v2 H2 G2 E2 s2 k2 r2 => ?_, z.mono s1⟩
    obtain ⟨i, d, rfl, hd, hR⟩ := hd2
    obtain ⟨a, vs, rfl, hz, rs, kk⟩ := rl
    cases r2
    obtain ⟨v, hv, rv⟩ := rs.atI hd
    exact ⟨a, vs, i, v, rfl, rfl, .inl (.inl (kk H2 k2.obj)), hv, k _ hR _ H2 G2 E2 (s1.trans s2) (k1.trans k2) (rv.mono s2)⟩

/-! ### a[lo:hi] -/
def lO (X : Cx) (F : Fx) (E : EX) (t : DW (Option Int)) : TO := fun σ H Q =>
  ∃ ρ G R Z, EnvOk X.K F ρ σ H G ∧ t ρ R Z ∧ (∀ o, R o → ∀ H' G', EnvOk X.K F ρ σ H' G' → Same G G' → Keep ρ σ H H' G G' → Q o H') ∧ lX X F E G ρ σ Z
theorem _root_.L2.PO.imp {X : Cx} {e : Option Expr} {t t' : TO} (h : PO X e t) (k : ∀ σ H Q, t' σ H Q → t σ H Q) : PO X e t' := ⟨fun pins s σ H Q I q => h.run pins s σ H Q I (k _ _ _ q)⟩
def dNoPart : DW (Option Int) := fun _ R _ => R none
def dPart (t : DW D) : DW (Option Int) := fun ρ R Z => t ρ (fun d => ∃ i, d = .int i ∧ R (some i)) Z
theorem o_none : PO X none (lO X F E dNoPart) := po_none.imp fun σ H Q ⟨ρ, G, R, Z, E0, h, k, z⟩ => k _ h H G E0 (Same.refl G) .rfl
theorem o_some (h : PE X e (lE X F E ta)) : PO X (some e) (lO X F E (dPart ta)) := (po_some h).imp fun σ H Q ⟨ρ, G, R, Z, E0, h, k, z⟩ => by
  refine ⟨ρ, G, _, Z, E0, h, fun d hd v H1 G1 E1 s1 k1 r => ?_, z⟩
  obtain ⟨i, rfl, hi⟩ := hd
  cases r
  exact ⟨i, rfl, k _ hi H1 G1 E1 s1 k1⟩
def cutD (ds : List D) (lo hi : Option Int) : List D := (ds.drop (HT.sIx ds.length 0 lo)).take (HT.sIx ds.length ds.length hi - HT.sIx ds.length 0 lo)
theorem Rps.cut {K : PySem.W.Frag} {G : Hp} {ds : List D} {vs : List V} (r : Rps K G ds vs) (lo hi : Option Int) : Rps K G (cutD ds lo hi) (cutV vs lo hi) := by
  unfold cutD cutV
  rw [r.length]
  exact (r.drop _).take _
def gSl : D → Option Int → Option Int → (D → Prop) → Prop
  | .lst ds, lo, hi, R => R (.lst (cutD ds lo hi))
  | .tup ds, lo, hi, R => R (.tup (cutD ds lo hi))
  | .str z, lo, hi, R => z.length ≤ sizeLine ∧ R (.str (cutS z lo hi))
  | _, _, _, _ => False
def dSl (ta : DW D) (tl th : DW (Option Int)) : DW D := fun ρ R Z => ta ρ (fun x => tl ρ (fun lo => th ρ (fun hi => gSl x lo hi R) Z) Z) Z
theorem cutV_all {vs : List V} {lo hi : Option Int} (h : HT.sIx vs.length 0 lo = 0 ∧ HT.sIx vs.length vs.length hi = vs.length) : cutV vs lo hi = vs := by
  unfold cutV
  rw [h.1, h.2]
  simp
theorem e_sl {lo hi : Option Expr} {tl th : DW (Option Int)} (he : PE X e (lE X F E ta)) (hl : PO X lo (lO X F E tl)) (hu : PO X hi (lO X F E th)) : PE X (.Subscript e (.Slice lo hi none p2) pos) (lE X F E (dSl ta tl th)) :=
  (pe_slice (sl_list.or (sl_tupF.or sl_str)) he hl hu).imp fun σ H Q ⟨ρ, G, R, Z, E0, h, k, z⟩ => by
    refine ⟨ρ, G, _, Z, E0, h, fun d hd v H1 G1 E1 s1 k1 r => ?_, z⟩
    refine ⟨ρ, G1, _, Z, E1, hd, fun lo hlo H2 G2 E2 s2 k2 => ?_, z.mono s1⟩
    refine ⟨ρ, G2, _, Z, E2, hlo, fun hi hhi H3 G3 E3 s3 k3 => ?_, z.mono (s1.trans s2)⟩
    have s13 := (s1.trans s2).trans s3
    have k13 := (k1.trans k2).trans k3
    have r' := (r.mono s2).mono s3
    cases d with
    | lst ds =>
      cases r' with
      | lst hx hz rs =>
        rename_i a' vs'
        refine .inl ⟨_, _, rfl, .inl (.inl (E3.sub _ _ hx)), fun p np => ?_⟩
        have sn := same_new (o := .lst (cutV vs' lo hi)) (E3.gnone np)
        exact k _ hhi _ _ _ (E3.frz np) (s13.trans sn) (k13.trans (.frz np)) (.lst upd_same (Nat.le_trans (cutV_length _ lo hi) hz) ((rs.cut lo hi).mono sn))
    | tup ds =>
      cases r' with
      | tup hx hz rs =>
        rename_i a' vs'
        refine .inr (.inl ⟨_, _, rfl, Same.seqT E3.sub hx, fun w => ?_, fun _ p o np hd => ?_⟩)
        · have rc := rs.cut lo hi
          rw [cutV_all w] at rc
          exact k _ hhi _ _ _ E3 s13 k13 (.tup hx hz rc)
        · have sn := same_new (o := .frz o (.tup (cutV vs' lo hi))) (E3.gnone np)
          exact k _ hhi _ _ _ (E3.frz np) (s13.trans sn) (k13.trans (.frz np)) (.tup (.new hd) (Nat.le_trans (cutV_length _ lo hi) hz) ((rs.cut lo hi).mono sn))
    | str zz =>
      cases r'
      exact .inr (.inr ⟨zz, rfl, hhi.1, k _ hhi.2 _ _ _ E3 s13 k13 (.str _)⟩)
    | _ => exact hhi.elim
/-! xs[::-1] of a list -/
def dRev (ta : DW D) : DW D := fun ρ R Z => ta ρ (fun d => ∃ ds, d = .lst ds ∧ R (.lst ds.reverse)) Z
theorem e_revL {k : Nat} {p1 p3 : Pos} (he : PE X e (lE X F E ta)) : PE X (.Subscript e (.Slice none none (some (.UnaryOp .USub (.Constant (.int 1) k p1) p2)) p3) pos) (lE X F E (dRev ta)) :=
  (pe_revL he).imp fun σ H Q ⟨ρ, G, R, Z, E0, h, k, z⟩ => by
    refine ⟨ρ, G, _, Z, E0, h, fun d hd v H1 G1 E1 s1 k1 r => ?_, z⟩
    obtain ⟨ds, rfl, hR⟩ := hd
    cases r with
    | lst hx hz rs =>
      rename_i a' vs'
      refine ⟨_, _, rfl, .inl (.inl (E1.sub _ _ hx)), fun p np => ?_⟩
      have sn := same_new (o := .lst (List.reverse vs')) (E1.gnone np)
      exact k _ hR _ _ _ (E1.frz np) (s1.trans sn) (k1.trans (.frz np)) (.lst upd_same (by rw [List.length_reverse]; exact hz) (rs.reverse.mono sn))
end
end DL
namespace DL
open PySem PySem.Spec PyProof.Rows L2

/-! ### the cup -/
theorem EnvOk.cupW {K : PySem.W.Frag} {F : Fx} {ρ : List S} {σ : St} {H G : Hp} {i : Nat} {a : Addr} {o : HO} (E : EnvOk K F ρ σ H G) (hi : ρ[i]? = some .cup) (hx : σ[i]? = some (some (.ref a))) (hc : CupAt (upd H a o) a) : EnvOk K F ρ σ (upd H a o) G := by
  obtain ⟨a', x', ga, h0, hcc⟩ := E.slot i _ hi
  rw [hx] at x'
  cases x'
  refine ⟨E.len, fun b u e => ?_, E.g0, E.gf, fun b u e n => ?_, fun c e => ?_, E.cup0, fun j t e => ?_, E.dis⟩
  · rw [upd_ne (ne_of_none e ga)]; exact E.sub b u e
  · have hb : b ≠ a := fun z => by
      subst z
      rcases h0 with h0 | h0
      · rw [h0] at e; cases e
      · exact n h0
    rw [upd_ne hb]; exact E.keep b u e n
  · by_cases z : c = a
    · subst z; exact hc
    · obtain ⟨x, y, h, c'⟩ := E.cupk c e
      exact ⟨x, y, by rw [upd_ne z]; exact h, c'⟩
  · refine (E.slot j t e).move (Same.refl G) fun b u w x g q => ⟨g, fun nc => ?_, fun ec => ?_⟩
    · have hb : b ≠ a := fun z => by
        subst z
        have ij : i ≠ j := fun z => by subst z; rw [hi] at e; cases e; exact nc rfl
        exact E.dis i j b .cup t ij hi e rfl w hx x
      rw [upd_ne hb]; exact q
    · subst ec
      by_cases z : b = a
      · subst z; exact hc
      · obtain ⟨a', h1, _, _, c⟩ := E.slot j _ e
        rw [x] at h1
        cases h1
        exact c.move (upd_ne z)
section
variable {X : Cx} {F : Fx} {E : EX} {a b c e : Expr} {es : List Expr} {ta tb tc : DW D} {ts : DW (List D)} {tl : DW (List D)} {tA : DW Bool} {p p2 pos spos : Pos} {x : Str}
def CupC (k z : Int) : Prop := 0 ≤ z ∧ (k = 1 → z < 4294967296)
/-- cup[k] -/
def dCupGet (i : Nat) (k : Int) : DW D := fun ρ R _ => ρ[i]? = some .cup ∧ (k = 0 ∨ k = 1) ∧ ∀ z : Int, CupC k z → R (.int z)
theorem e_cup (i : Nat) {k : Int} {j p} (hN : X.N[i]? = some x := by rfl) (hv : Vis X.env.scope x := by first | exact Or.inl rfl | exact Or.inr (Or.inl rfl) | exact Or.inr (Or.inr rfl)) (hd : (x == ("__debug__" : Str)) = false := by decide)
    (hcd : (x == ("__classdict__" : Str)) = false := by decide) : PE X (.Subscript (.Name x p2) (.Constant (.int k) j p) pos) (lE X F E (dCupGet i k)) :=
  (pe_ix ix_list (pe_var hN hv hd hcd) pe_int (fun _ _ => rfl)).imp fun σ H Q ⟨ρ, G, R, Z, E0, ⟨hi, hk, hR⟩, kk, z⟩ => by
    obtain ⟨a, hx, _, _, x, y, ha, c1, c2, c3⟩ := E0.slot i _ hi
    refine ⟨_, hx, ?_⟩
    rcases hk with rfl | rfl
    · exact ⟨a, _, 0, .int x, rfl, rfl, .inl (.inl ha), rfl, kk _ (hR x ⟨c1, fun h => by cases h⟩) _ H G E0 (Same.refl G) .rfl (.int _)⟩
    · exact ⟨a, _, 1, .int y, rfl, rfl, .inl (.inl ha), rfl, kk _ (hR y ⟨c2, fun _ => c3⟩) _ H G E0 (Same.refl G) .rfl (.int _)⟩
/-- cup[k] = e -/
def dCupSet (i : Nat) (k : Int) (t : DW D) : DS := fun B ρ => t ρ (fun d => ρ[i]? = some .cup ∧ (k = 0 ∨ k = 1) ∧ ∃ z : Int, d = .int z ∧ CupC k z ∧ B.nx ρ) (B.ex ρ)
theorem s_cup (i : Nat) {k : Int} {j p} (he : PE X e (lE X F E ta)) (hN : X.N[i]? = some x := by rfl) (hv : Vis X.env.scope x := by first | exact Or.inl rfl | exact Or.inr (Or.inl rfl) | exact Or.inr (Or.inr rfl)) (hd : (x == ("__debug__" : Str)) = false := by decide)
    (hcd : (x == ("__classdict__" : Str)) = false := by decide) (hs : swapsWithSole [.Subscript (.Name x p2) (.Constant (.int k) j p) pos] e spos.line X.env = pure false := by rfl)
    (hw : swappedStores [.Subscript (.Name x p2) (.Constant (.int k) j p) pos] e X.env = pure none := by rfl) :
    PS X (.Assign [.Subscript (.Name x p2) (.Constant (.int k) j p) pos] e spos) (lS X F E (dCupSet i k ta)) :=
  (ps_asg he (pg_sub (pe_var hN hv hd hcd) pe_int set_list) hs hw).imp fun D σ H ⟨ρ, G, B, E0, h, e⟩ =>
    ⟨ρ, G, _, _, E0, h, fun d ⟨hi, hk, z, hd, hz, hn⟩ v H1 G1 E1 s1 k1 r => by
      subst hd
      cases r
      obtain ⟨a, hx, g1, g2, x, y, ha, c1, c2, c3⟩ := E1.slot i _ hi
      refine ⟨_, hx, ?_⟩
      rcases hk with rfl | rfl
      · refine ⟨a, _, 0, 0, rfl, rfl, ha, rfl, e.nx ρ hn σ _ G1 (E1.cupW hi hx ⟨z, y, upd_same, hz.1, c2, c3⟩) s1⟩
      · refine ⟨a, _, 1, 1, rfl, rfl, ha, rfl, e.nx ρ hn σ _ G1 (E1.cupW hi hx ⟨x, z, upd_same, c1, hz.1, hz.2 rfl⟩) s1⟩, e.ex ρ σ⟩
/-! ### a call with the cup ahead -/
def dCallC (i : Nat) (φ : Φ) (ts : DW (List D)) : DW D := fun ρ R Z => ρ[i]? = some .cup ∧ ts ρ (fun ds => φ ds R Z) Z
theorem e_callC (i : Nat) {k : Nat} {f : Addr} {fd : FuncData} {ps : List Str} {φ : Φ} {y : Str} (G : FnD X.prog X.w X.K X.mg X.base k f fd ps true φ) (hr : Room k X.A) (hg : Gl X x) (hm : X.mg x = some (.ref f)) (hk : PySem.W.keepIn X.K (.ref f) = true) (hb : Binds X.K fd ps []) (hx : ∀ σ, PassesAt (L2.CX X.prog X.w) X σ (E σ))
    (hl : es.length + 1 = ps.length) (hlen : ∀ ρ R Z, ts ρ R Z → ts ρ (fun ds => R ds ∧ ds.length = es.length) Z)
    (ha : PA X es (lA X F E ts)) (hN : X.N[i]? = some y := by rfl) (hv : Vis X.env.scope y := by first | exact Or.inl rfl | exact Or.inr (Or.inl rfl) | exact Or.inr (Or.inr rfl)) (hd : (y == ("__debug__" : Str)) = false := by decide)
    (hcd : (y == ("__classdict__" : Str)) = false := by decide) (hdb : (x == ("__debug__" : Str)) = false := by decide) (he : starEach (.Name y p2 :: es) X.env = (false, eval (.Name y p2) X.env) :: starEach es X.env := by rfl) (hpl : (backTo pos (starEach es X.env)).any (·.1) = false := by rfl) :
    PE X (.Call (.Name x p) (.Name y p2 :: es) [] pos) (lE X F E (dCallC i φ ts)) := (pe_callS G hr hg hm hk hb hx (pa_cons (pe_var hN hv hd hcd) ha he) hdb he hpl).imp fun σ H Q ⟨ρ, G0, R, Z, E0, ⟨hi, h⟩, kk, z⟩ => by
  obtain ⟨a, hxa, ga, h0, hc⟩ := E0.slot i _ hi
  refine ⟨_, hxa, ρ, G0, _, Z, E0, hlen _ _ _ h, fun ds hds vs H1 G1 E1 s1 k1 rs => ?_, z⟩
  obtain ⟨a', hxa', ga1, h01, hc1⟩ := E1.slot i _ hi
  rw [hxa] at hxa'
  cases hxa'
  have cup_ : ∀ b, some a = some b → ∃ j : Nat, ρ[j]? = some S.cup ∧ σ[j]? = some (some (V.ref b)) := fun b q => by cases q; exact ⟨i, hi, hxa⟩
  refine ⟨⟨H1, G1, some a⟩, ds, _, _, rfl, E1.entryC hc1, ⟨a, vs, rfl, rfl, ga1, rs⟩, ?_, hds.1, fun d hd v H2 G2 E2 r => ?_, fun c b hcc hm H2 G2 E2 => ?_⟩
  · show ds.length + 1 = ps.length
    rw [hds.2, hl]
  · exact kk d hd v H2 G2 (E1.after cup_ E2) (s1.trans E2.g0) (k1.trans (keep_call cup_ E2)) r
  · exact z c b hcc hm H2 G2 (E1.after cup_ E2) (s1.trans E2.g0)

/-! ### lists of the def's own, changed -/
/-- xs[i] = e -/
def dSetIx (j : Nat) (ti te : DW D) : DS := fun B ρ => te ρ (fun d => ∃ ds, ρ[j]? = some (.ol ds) ∧ ti ρ (fun d2 => ∃ k m, d2 = .int k ∧ ixN ds.length k = some m ∧ B.nx (ρ.set j (.ol (ds.set m d)))) (B.ex ρ)) (B.ex ρ)
theorem ixN_lt {n m : Nat} {k : Int} (h : ixN n k = some m) : m < n := (ixN_seq h).2.1
theorem s_setIx (j : Nat) {i : Expr} {ti te : DW D} (hi : PE X i (lE X F E ti)) (he : PE X e (lE X F E te)) (hN : X.N[j]? = some x := by rfl) (hv : Vis X.env.scope x := by first | exact Or.inl rfl | exact Or.inr (Or.inl rfl) | exact Or.inr (Or.inr rfl)) (hd : (x == ("__debug__" : Str)) = false := by decide)
    (hcd : (x == ("__classdict__" : Str)) = false := by decide) (hs : swapsWithSole [.Subscript (.Name x p2) i pos] e spos.line X.env = pure false := by rfl)
    (hw : swappedStores [.Subscript (.Name x p2) i pos] e X.env = pure none := by rfl)
    (ha : ∀ v, assign (.Subscript (.Name x p2) i pos) X.env v = (do
      let ov ← holding [v] (eval (.Name x p2) X.env)
      let iv ← holding [v, ov] (eval i X.env)
      standAt pos
      holding [v, ov, iv] (setItem ov iv v)
      release [v, ov, iv] []) := by intro _; rfl) :
    PS X (.Assign [.Subscript (.Name x p2) i pos] e spos) (lS X F E (dSetIx j ti te)) :=
  (ps_asg he (pg_sub (pe_var hN hv hd hcd) hi set_list ha) hs hw).imp fun D σ H ⟨ρ, G, B, E0, h, e⟩ =>
    ⟨ρ, G, _, _, E0, h, fun d hd v H1 G1 E1 s1 k1 r => by
      obtain ⟨ds, hj, hd⟩ := hd
      obtain ⟨a, vs0, hx, _⟩ := E1.slot j _ hj
      refine ⟨_, hx, ρ, G1, _, _, E1, hd, fun d2 hd2 v2 H2 G2 E2 s2 k2 r2 => ?_, (e.ex ρ σ).mono s1⟩
      obtain ⟨k, m, rfl, hm, hn⟩ := hd2
      cases r2
      obtain ⟨a', vs, hx', ga, h0, ha, hz, rs⟩ := E2.slot j _ hj
      rw [hx] at hx'
      cases hx'
      rw [rs.length] at hm
      refine ⟨a, vs, k, m, rfl, rfl, ha, hm, e.nx _ hn σ _ G2 (E2.write hj rfl (by simp) hx ?_) (s1.trans s2)⟩
      exact ⟨a, _, rfl, ga, h0, upd_same, by rw [List.length_set]; exact hz, rs.set (r.mono s2) m⟩, e.ex ρ σ⟩
/-- xs.append(e) -/
def dApp (j : Nat) (te : DW D) : DS := fun B ρ => ∃ ds, ρ[j]? = some (.ol ds) ∧ te ρ (fun d => ds.length < sizeLine ∧ B.nx (ρ.set j (.ol (ds ++ [d])))) (B.ex ρ)
theorem s_app (j : Nat) {apos cpos : Pos} (he : PE X e (lE X F E ta)) (hN : X.N[j]? = some x := by rfl) (hv : Vis X.env.scope x := by first | exact Or.inl rfl | exact Or.inr (Or.inl rfl) | exact Or.inr (Or.inr rfl)) (hd : (x == ("__debug__" : Str)) = false := by decide)
    (hcd : (x == ("__classdict__" : Str)) = false := by decide)
    (hbase : attributeBase (.Name x p2) "append" X.env (eval (.Name x p2) X.env) = eval (.Name x p2) X.env := by rfl)
    (hfew : ((backTo cpos (starEach [e] X.env)).all (fun x => !x.1) && (backToKw cpos (keywordEach [] X.env)).all (fun x => x.1.isSome)
      && decide ([e].length + ([] : List Keyword).length + (if ([] : List Keyword).isEmpty then 0 else 1) < 30)) = true := by rfl)
    (hline : (apos.endLine == cpos.line) = true := by rfl) (hs : starEach [e] X.env = (false, eval e X.env) :: starEach [] X.env := by rfl) (hplain : (backTo cpos (starEach [] X.env)).any (·.1) = false := by rfl)
    (hsw : swapsWith (.Call (.Attribute (.Name x p2) "append" apos) [e] [] cpos) none spos.line X.env = pure false := by rfl) :
    PS X (.Expr (.Call (.Attribute (.Name x p2) "append" apos) [e] [] cpos) spos) (lS X F E (dApp j ta)) :=
  (ps_expr (pe_bm PySem.F.plainAttrs_list PySem.F.slot_list_append PySem.F.type_list_append mt_append (pe_var hN hv hd hcd) (pa_cons he pa_nil hs) hbase hfew hline hs hplain) hsw).imp fun D σ H ⟨ρ, G, B, E0, ⟨ds, hj, h⟩, e⟩ => by
    obtain ⟨a, vs0, hx, _, _, ha0, _⟩ := E0.slot j _ hj
    refine ⟨_, hx, .inl ⟨rfl, _, .inl (.inl ha0)⟩, ρ, G, _, _, E0, h, fun d hd v H1 G1 E1 s1 k1 r => ?_, e.ex ρ σ⟩
    obtain ⟨a', vs, hx', ga, h0, ha, hz, rs⟩ := E1.slot j _ hj
    rw [hx] at hx'
    cases hx'
    refine ⟨a, vs, v, rfl, rfl, ha, by rw [← rs.length]; exact hd.1, e.nx _ hd.2 σ _ G1 (E1.write hj rfl (by simp) hx ?_) s1⟩
    exact ⟨a, _, rfl, ga, h0, upd_same, by rw [List.length_append, List.length_singleton, ← rs.length]; exact hd.1, rs.append (.cons r .nil)⟩
/-! ### targets -/
/-- a, b = e -/
def dAsg (tg : Tg) (t : DW D) : DS := fun B ρ => t ρ (fun d => bindT tg d ρ B.nx) (B.ex ρ)
theorem s_asg {tgt : Expr} {tg : Tg} {g : TG} (he : PE X e (lE X F E ta)) (hg : PG X tgt g) {pr : Bool} (hgt : GtOk X F pr tg g) (hs : swapsWithSole [tgt] e spos.line X.env = pure false := by rfl) (hw : swappedStores [tgt] e X.env = pure none := by rfl)
    (h1 : (assignEach [tgt] X.env).map (·.2) = [assign tgt X.env] := by rfl) : PS X (.Assign [tgt] e spos) (lS X F E (dAsg tg ta)) :=
  (ps_asg he hg hs hw h1).imp fun D σ H ⟨ρ, G, B, E0, h, e⟩ =>
    ⟨ρ, G, _, _, E0, h, fun d hd v H1 G1 E1 s1 k1 r => hgt ρ σ H1 G1 d v _ _ E1 (.inl r) hd fun ρ' σ' hk E' _ => e.nx ρ' hk σ' H1 G1 E' s1, e.ex ρ σ⟩
/-- a, b = x, y -/
def dPar (i j : Nat) (ts : DW (List D)) : DS := fun B ρ => ts ρ (fun ds => ∃ d d2, ds = [d, d2] ∧ B.nx ((ρ.set i (.im d)).set j (.im d2))) (B.ex ρ)
theorem s_par (i j : Nat) {y : Str} {px py pt : Pos} {kt k2 pt2} (hc : X.calm = true) (hN : X.N.Nodup) (hij : i ≠ j)
    (ha : PA X [a, b] (lA X F E ts)) (hw : swappedStores [.Tuple [.Name x px, .Name y py] kt pt] (.Tuple [a, b] k2 pt2) X.env = pure (some [x, y]))
    (hi : X.N[i]? = some x := by rfl) (hj : X.N[j]? = some y := by rfl) (hx : X.env.scope.names.lookup x = some .local := by rfl) (hy : X.env.scope.names.lookup y = some .local := by rfl)
    (hs : swapsWithSole [.Tuple [.Name x px, .Name y py] kt pt] (.Tuple [a, b] k2 pt2) spos.line X.env = pure false := by rfl) :
    PS X (.Assign [.Tuple [.Name x px, .Name y py] kt pt] (.Tuple [a, b] k2 pt2) spos) (lS X F E (dPar i j ts)) :=
  (ps_par hc hN hi hj hij hx hy ha hw hs).imp fun D σ H ⟨ρ, G, B, E0, h, e⟩ =>
    ⟨ρ, G, _, _, E0, h, fun ds hd vs H1 G1 E1 s1 k1 rs => by
      obtain ⟨d, d2, rfl, hn⟩ := hd
      match vs, rs with
      | [v, w], .cons r1 (.cons r2 .nil) => exact ⟨v, w, rfl, e.nx _ hn _ H1 G1 ((E1.setIm r1).setIm r2) s1⟩, e.ex ρ σ⟩
end
end DL
namespace L2
open PySem PySem.Spec PyProof.Rows
section
variable {P : Program} {w : World} {A : Around} {E : Value → Shared → Prop} {s : Shared}
set_option maxRecDepth 100000 in
set_option maxHeartbeats 3200000 in
theorem dl_set_listI {l : Addr} {items : Array Value} (ns : List Int) {Q : Value → Shared → Prop} (hh : A.handled = none) (hl : s.heap.IsList l items) (hit : IntsAre items.toList ns) (hb : ns.length + 1 < scanBound)
    (h : ∀ (h' : Heap) (tk c : Nat), SetR w h' s.heap.objs.size (fun j => decide (j ∈ ns)) c → c ≤ ns.length → (∀ b o, s.heap.get? b = some o → h'.get? b = some o) → Q (.ref s.heap.objs.size) { s with heap := h', toks := tk }) :
    wpAny (model P w) A (call (.type "set") [.ref l]) Q E s := by
  have hisz : items.size = ns.length := by
    have q := IntsAre.length hit
    rw [Array.length_toList] at q
    exact q
  obtain ⟨c, tl, hmro⟩ := F.called_set.mro
  have hmade := F.called_set.made
  have hsub := F.called_set.sub
  refine wpAny_call (codeAny_of_tree ?_)
  show wpAny _ _ (callAny (.type "set") _) _ _ _
  refine wpAny_pure ⟨Code.quiet_builtin _ (by decide +kernel), codeAny_builtin F.entry_type_call ?_⟩
  rw [Around.under_plain (weight_type_call_type "set" [.ref l] []) rfl]
  have h1 := F.called_set.notType
  have h2 := F.called_set.canCreate
  have hct := F.typeCall_set_1 (.ref l)
  repeat (any_goals (first | assumption | wp_step))

  refine codeAny_mono (code_set_led1 (.ref l) (E := E) (Q₁ := fun obj s₁ => obj = .ref s.heap.objs.size ∧ s₁ = { s with heap := s.heap.push { cls := .type "set", dict := none, data := .set #[] 0 (.fresh 0 0 (!w.params.followText "set-order")) } }) ⟨rfl, rfl⟩) fun r s₁ hr => ?_
  cases r with
  | error e => exact hr
  | ok fl =>
    cases fl with
    | ret obj =>
      obtain ⟨rfl, rfl⟩ := hr
      have hS : (s.heap.push { cls := .type "set", dict := none, data := .set #[] 0 (.fresh 0 0 (!w.params.followText "set-order")) }).get? s.heap.objs.size = some { cls := .type "set", dict := none, data := .set #[] 0 (.fresh 0 0 (!w.params.followText "set-order")) } := Heap.get?_push_size _ rfl
      have hT : Shared.TypeIs { s with heap := s.heap.push { cls := .type "set", dict := none, data := .set #[] 0 (.fresh 0 0 (!w.params.followText "set-order")) } } (.ref s.heap.objs.size) "set" := ⟨_, hS, rfl⟩
      have hli := F.called_set.init.lookup
      have hbi := F.called_set.init.bind (.ref s.heap.objs.size)
      repeat (any_goals (first | assumption | wp_step))

      refine codeAny_mono (codeAny_call_builtin (R := wants (fun r s₂ => r = .none ∧ ∃ h' tk c, s₂ = { s with heap := h', toks := tk } ∧ SetR w h' s.heap.objs.size (fun j => decide (j ∈ ns)) c ∧ c ≤ ns.length ∧
          (∀ b o, s.heap.get? b = some o → h'.get? b = some o)) E) F.called_set.init.plain F.entry_set_init (check_set_init_1 hT ?_)) fun r₂ s₂ hr₂ => ?_
      · obtain ⟨ol, hol, hcl, nl, hdl⟩ := hl
        obtain ⟨ocls, odict, odata, oslots⟩ := ol
        simp only at hcl hdl
        subst hcl; subst hdl
        have hol' : (s.heap.push { cls := .type "set", dict := none, data := .set #[] 0 (.fresh 0 0 (!w.params.followText "set-order")) }).get? l = some { cls := .type "list", dict := odict, data := .seq items nl, slots := oslots } := Heap.get?_push_of_some _ hol
        have hsls := F.sub_list_set
        have hslf := F.sub_list_frozenset
        have hne : (Value.type "list" == Value.type "dict") = false := by decide
        have hl1 : (s.heap.push { cls := .type "set", dict := none, data := .set #[] 0 (.fresh 0 0 (!w.params.followText "set-order")) }).IsList l items := ⟨_, hol', rfl, nl, rfl⟩
        unfold Builtin.«set.__init__» noKeywords Builtin.Frozenset.updateFrom
        generalize hPI : pyIter = PI
        wp_walk
        subst hPI

        refine wpAny_pyIter_list hl1 ?_
        refine wpAny_bind (wpAny_runValue ?_)
        have hlS : l < s.heap.objs.size := Heap.lt_size hol
        have hh3 : A.in1.in1.in1.handled = none := by simp [hh]
        have hz1 : (s.heap.push { cls := .type "set", dict := none, data := .set #[] 0 (.fresh 0 0 (!w.params.followText "set-order")) }).objs.size = s.heap.objs.size + 1 := Heap.size_push ..
        have hneI : l ≠ (s.heap.push { cls := .type "set", dict := none, data := .set #[] 0 (.fresh 0 0 (!w.params.followText "set-order")) }).objs.size := by
          rw [Heap.size_push]; exact Nat.ne_of_lt (Nat.lt_succ_of_lt hlS)
        have hSf : s.heap.objs.size ∉ [(s.heap.push { cls := .type "set", dict := none, data := .set #[] 0 (.fresh 0 0 (!w.params.followText "set-order")) }).objs.size, l] := by
          rw [Heap.size_push]; simp only [List.mem_cons, List.mem_singleton, List.not_mem_nil, or_false, not_or]
          exact ⟨Nat.ne_of_lt (Nat.lt_succ_self _), Nat.ne_of_gt hlS⟩
        have hval : ∀ (i : Nat) (v : Value), items[i]? = some v → ∃ k t, ns[i]? = some k ∧ v = .int k t := fun i v hv => by
          have hi : i < ns.length := by rw [← hisz]; exact (Array.getElem?_eq_some_iff.mp hv).1
          obtain ⟨t, e⟩ := PyProof.Rows.IntsAre.int_at hit i v (by rw [Array.getElem?_toList]; exact hv)
          refine ⟨ns[i], t, List.getElem?_eq_getElem hi, ?_⟩
          rw [e, List.getD_eq_getElem?_getD, List.getElem?_eq_getElem hi] <;> rfl
        refine set_update_ints ((Walks.list hh3 _ l hneI items).toS) s.heap.objs.size
          hSf ns hisz hb hval (items.size - 0) 0 _ (by omega) (Nat.zero_le _)
          ⟨⟨_, Heap.get?_push_size _ rfl, rfl, rfl⟩, (hl1.push _)⟩ ?hS0 ?hR
        case hS0 =>
          have hget : ((s.heap.push { cls := .type "set", dict := none, data := .set #[] 0 (.fresh 0 0 (!w.params.followText "set-order")) }).push { cls := .type "list_iterator", data := .fields #[.ref l, .int 0 0] }).get? s.heap.objs.size
              = some { cls := .type "set", dict := none, data := .set #[] 0 (.fresh 0 0 (!w.params.followText "set-order")) } := Heap.get?_push_of_some _ hS
          exact ⟨0, Nat.le_refl 0, setR_new_at hget⟩
        case hR =>
          intro s' c' hm hc' hS'
          obtain ⟨h', g2, d', tk', os'⟩ := s'
          have eg : g2 = s.gens := hm.gens
          have ed : d' = s.drawn := hm.drawn
          have eo : os' = s.os := hm.os
          subst eg; subst ed; subst eo
          show wpAny _ _ _ _ _ _
          refine wpAny_pure ?_
          show wpAny _ _ (ret Value.none) _ _ _
          rw [hisz] at hc'
          refine wpAny_pure ⟨rfl, h', tk', c', rfl, hS', hc', fun b o e => ?_⟩
          have hb0 : b < s.heap.objs.size := Heap.lt_size e
          have hb1 : b ≠ s.heap.objs.size := Nat.ne_of_lt hb0
          have hb2 : b ≠ (s.heap.push { cls := .type "set", dict := none, data := .set #[] 0 (.fresh 0 0 (!w.params.followText "set-order")) }).objs.size := by
            rw [Heap.size_push]; exact Nat.ne_of_lt (Nat.lt_succ_of_lt hb0)
          exact hm.heap b o (by simp only [List.mem_cons, List.mem_singleton, List.not_mem_nil, or_false, not_or]; exact ⟨hb1, hb2⟩) (Heap.get?_push_of_some _ (Heap.get?_push_of_some _ e))

      · cases r₂ with
        | error e => exact hr₂
        | ok fl₂ =>
          cases fl₂ with
          | ret r =>
            obtain ⟨rfl, h', tk, c', rfl, hS', hc', hk'⟩ := hr₂
            repeat (any_goals (first | assumption | wp_step))
            exact h _ _ _ hS' hc' hk'
          | _ => exact hr₂.elim
    | _ => exact hr.elim

end
end L2
namespace DL
open PySem PySem.Spec PyProof.Rows L2

/-! ### sorted of data -/
def mSort (ds : List D) : List D := ds.mergeSort (PySem.W.dataLe false pyD)
structure SortOk (ds : List D) : Prop where
  al : PySem.W.AllAlike (ds.map pyD)
  so : PySem.W.Sortable (ds.map pyD)
  dp : ∀ d ∈ ds, (pyD d).depth ≤ 60
  ok : ∀ d ∈ ds, okD d = true
def rSortD (K : PySem.W.Frag) : List V → Hp → VK → Prop := fun xs H Q => ∃ (a : Addr) (vs : List V) (ds : List D) (G : Hp), xs = [.ref a] ∧ SqL K H a vs ∧ vs.length ≤ sizeLine ∧ Same G H ∧ Rps K G ds vs ∧ SortOk ds ∧
  ∀ p ws, H p = none → ws.length ≤ sizeLine → Rps K G (mSort ds) ws → Q (.ref p) (upd H p (.lst ws))
abbrev RD (K : PySem.W.Frag) (G : Hp) : Value → D → Prop := fun v d => ∃ x, RelV x v ∧ Rp K G d x
theorem each_of {K : PySem.W.Frag} {G : Hp} : ∀ {ds : List D} {vs : List V} {us : List Value}, Rps K G ds vs → Vals vs us → PySem.W.EachIs (RD K G) us ds
  | _, _, _, .nil, .nil => .nil
  | _, _, _, .cons r rs, .cons v vs => .cons ⟨_, v, r⟩ (each_of rs vs)
theorem each_to {K : PySem.W.Frag} {G : Hp} : ∀ {us : List Value} {ds : List D}, PySem.W.EachIs (RD K G) us ds → ∃ vs, Vals vs us ∧ Rps K G ds vs
  | _, _, .nil => ⟨[], .nil, .nil⟩
  | _, _, .cons ⟨x, h, r⟩ t => by
    obtain ⟨vs, h1, h2⟩ := each_to t
    exact ⟨x :: vs, .cons h h1, .cons r h2⟩
theorem each_reads {X : Cx} {pins : List (Addr × Obj)} {σ : St} {H G : Hp} {s : Shared} (I : Inv X pins σ H s) (sm : Same G H) : ∀ {us : List Value} {ds : List D}, PySem.W.EachIs (RD X.K G) us ds → (∀ d ∈ ds, okD d = true) → PySem.W.EachIs (fun v d => ∃ as, Reads s.heap v (pyD d) as) us ds
  | _, _, .nil, _ => .nil
  | _, _, .cons ⟨x, h, r⟩ t, ok => .cons (Dp.reads I _ _ _ (r.dp sm _ (lay_ok (ok _ List.mem_cons_self))) h) (each_reads I sm t fun d hd => ok d (List.mem_cons_of_mem _ hd))
section
variable {X : Cx} {F : Fx} {E : EX} {e : Expr} {ta : DW D} {tl : DW (List D)} {p pos p2 pos2 : Pos}
theorem cr_sortD (hu : X.A.units + 64 < cLine) : CallR X (.builtin "sorted") (rSortD X.K) := by
  intro pins s σ H xs us Q I r h
  obtain ⟨a, vs, ds, G, rfl, hs, hz, sm, rs, so, q⟩ := h
  obtain ⟨its, rv, hl, _⟩ := I.list hs
  rw [Vals.ref1 r]
  have ea := each_of rs rv
  have hlen : its.length = ds.length := by rw [← rv.length, rs.length]
  refine PySem.W.sorted_data (enc := pyD) hl.isList ea (each_reads I sm ea so.ok) so.al so.so (by rw [rs.length]; exact hz) (fun d hd => ?_) fun out ho eo => ?_
  · have := so.dp d hd
    omega
  · obtain ⟨ws, h1, h2⟩ := each_to eo
    obtain ⟨ep, he'⟩ := PyProof.Rows.sortedAll_at s.heap its out.toArray
    have hw : ws.length ≤ sizeLine := by rw [h1.length, ho, rs.length]; exact hz
    exact ⟨.ref _, upd H (s.heap.objs.size + 1) (.lst ws), I.laid (t' := s.toks) (fun _ _ => PyProof.Rows.sortedAll_old) (Nat.le_succ _) ⟨hw, out, ep, h1, he'⟩, rfl, q _ _ (I.hok.fresh (Nat.le_succ _)) hw h2⟩
def gSort (ds : List D) (R : D → Prop) : Prop := SortOk ds ∧ R (.lst (mSort ds))
theorem cl_sort : CallL X F (rSortD X.K) gSort := by
  intro ρ σ H G a ds vs R Q E0 ha hz rs h k
  refine ⟨a, vs, ds, G, rfl, .inl (.inl ha), hz, E0.sub, rs, h.1, fun p ws np hw rw' => ?_⟩
  have sn := same_new (o := .lst ws) (E0.gnone np)
  exact k _ h.2 _ _ _ (E0.frz np) sn (.frz np) (.lst upd_same hw (rw'.mono sn))
def gSortD : DA
  | [.lst ds], R => gSort ds R
  | _, _ => False
theorem cd_sort : CallD X F (rSortD X.K) gSortD := by
  intro ρ σ H G ds vs R Q E0 rs h k
  match ds, rs, h with
  | [.lst xs], .cons (.lst hx hz r) .nil, h =>
    refine ⟨_, _, xs, G, rfl, .inl (.inl (E0.sub _ _ hx)), hz, E0.sub, r, h.1, fun p ws np hw rw' => ?_⟩
    have sn := same_new (o := .lst ws) (E0.gnone np)
    exact k _ h.2 _ _ _ (E0.frz np) sn (.frz np) (.lst upd_same hw (rw'.mono sn))
  | [], _, h => exact h.elim
  | .lst _ :: _ :: _, _, h => exact h.elim
  | .tup _ :: _, _, h => exact h.elim
  | .str _ :: _, _, h => exact h.elim
  | .int _ :: _, _, h => exact h.elim
  | .bl _ :: _, _, h => exact h.elim
  | .non :: _, _, h => exact h.elim
  | .dk _ _ :: _, _, h => exact h.elim
  | .dt _ _ :: _, _, h => exact h.elim
  | .set _ :: _, _, h => exact h.elim
  | .ref _ :: _, _, h => exact h.elim

/-! ### sets of ints -/
def rSetI (K : PySem.W.Frag) (w : World) : List V → Hp → VK → Prop := fun xs H Q => ∃ (a : Addr) (ns : List Int), xs = [V.ref a] ∧ (SqL K H a (ns.map V.int) ∨ SqT K H a (ns.map V.int)) ∧ ns.length ≤ 4000 ∧
  ∀ p c, H p = none → c ≤ ns.length → Q (.ref p) (upd H p (SetO w p (fun j => decide (j ∈ ns)) c))
theorem cr_setI (hc : X.calm = true) : CallR X (.type "set") (rSetI X.K X.w) := by
  intro pins s σ H xs us Q I r h
  obtain ⟨a, ns, rfl, hs, hl, q⟩ := h
  rw [Vals.ref1 r]
  have hb : ns.length + 1 < scanBound := by unfold scanBound; omega
  have fin : ∀ (h' : Heap) (tk c : Nat), SetR X.w h' s.heap.objs.size (fun j => decide (j ∈ ns)) c → c ≤ ns.length → (∀ b o, s.heap.get? b = some o → h'.get? b = some o) → EP X pins σ Q (.ref s.heap.objs.size) { s with heap := h', toks := tk } := fun h' tk c R hc' k =>
    ⟨.ref _, upd H s.heap.objs.size (SetO X.w s.heap.objs.size (fun j => decide (j ∈ ns)) c), I.laid (t' := tk) k (Nat.le_refl _) (setO_new R), rfl, q _ _ (I.hok.fresh (Nat.le_refl _)) hc'⟩
  rcases hs with hs | hs
  · obtain ⟨its, rv, pl, _⟩ := I.list hs
    exact dl_set_listI ns (I.ok.hd hc) pl.isList (by simpa using rv.ints) hb fin
  · obtain ⟨its, rv, pl, _⟩ := I.tuple hs
    exact call_set_tupI ns (I.ok.hd hc) pl (by simpa using rv.ints) hb fin
def rSortedSet (w : World) : List V → Hp → VK → Prop := fun xs H Q => ∃ (a : Addr) (ns : List Int) (c : Nat), xs = [V.ref a] ∧ H a = some (SetO w a (fun j => decide (j ∈ ns)) c) ∧ c ≤ 4000 ∧ ∀ p, H p = none → Q (.ref p) (upd H p (.lst ((sortU ns).map V.int)))
theorem cr_sortedSet (hc : X.calm = true) : CallR X (.builtin "sorted") (rSortedSet X.w) := by
  intro pins s σ H xs us Q I r h
  obtain ⟨a, ns, c, rfl, ha, hl, q⟩ := h
  rw [Vals.ref1 r]
  refine sorted_setA (setO_get I ha) (I.ok.hd hc) (by rw [sizeLine_eq]; omega) fun s' p out c' ms k1 g1 o1 hp hpp hI hasc hm hlen => ?_
  have e : ms = sortU ns := asc_ext hasc (sortU_asc ns) fun k => by rw [hm k, mem_sortU]; exact decide_eq_true_iff
  subst e
  have I1 : Inv X pins σ H s' := I.call' (ch := []) o1 (Un.kept k1) (I.hok.kept k1) (by rw [g1]; exact I.bare) (fun _ z => nomatch z)
  have np : H p = none := I.hok.fresh hp
  refine ⟨.ref p, upd H p (.lst ((sortU ns).map V.int)), ?_, rfl, q p np⟩
  refine I1.take (h' := s'.heap) (t' := s'.toks) (fun b ob _ e => e) (I.fpOk hp np) ?_
  refine ⟨by rw [List.length_map, hlen, sizeLine_eq]; omega, out.toList, c', vals_of_ints hI, by simpa using hpp⟩
def rLenSet (w : World) : List V → Hp → VK → Prop := fun xs H Q => ∃ (a : Addr) (ns : List Int) (c : Nat), xs = [V.ref a] ∧ H a = some (SetO w a (fun j => decide (j ∈ ns)) c) ∧ Q (.int (sortU ns).length) H
theorem cr_lenSet : CallR X (.builtin "len") (rLenSet X.w) := by
  intro pins s σ H xs us Q I r h
  obtain ⟨a, ns, c, rfl, ha, q⟩ := h
  rw [Vals.ref1 r]
  obtain ⟨o, es, ep, t, ho, hex, hd, g, nd, hm, hb, hf, hn, _⟩ := setO_get I ha
  have e : es.size = (sortU ns).length := by
    have pm : (es.toList.map keyOf).Perm (sortU ns) := (List.perm_ext_iff_of_nodup nd ((sortU_asc ns).imp fun h => Int.ne_of_lt h)).mpr fun k => by
      rw [← hm k, mem_sortU]; exact decide_eq_true_iff
    have := pm.length_eq
    rw [List.length_map, Array.length_toList] at this
    exact this
  refine call_len_set ho hex hd hf (by unfold scanBound at hb; omega) ?_
  rw [e]
  exact ⟨.int _, H, I.tok _, ⟨_, rfl⟩, q⟩
/-- sorted(set(xs)), len(set(xs)) -/
def gSS (ds : List D) (R : D → Prop) : Prop := ∃ ns, unInts ds = some ns ∧ ns.length ≤ 4000 ∧ R (.lst ((sortU ns).map .int))
def gLS (ds : List D) (R : D → Prop) : Prop := ∃ ns, unInts ds = some ns ∧ ns.length ≤ 4000 ∧ R (.int (sortU ns).length)
theorem ss_fin {ρ : List S} {σ : St} {H G : Hp} {a : Addr} {ns : List Int} {R : D → Prop} {Q : VK} (E0 : EnvOk X.K F ρ σ H G) (hs : SqL X.K H a (ns.map V.int) ∨ SqT X.K H a (ns.map V.int)) (hl : ns.length ≤ 4000) (h : R (.lst ((sortU ns).map .int)))
    (k : ∀ d, R d → ∀ v H' G', EnvOk X.K F ρ σ H' G' → Same G G' → Keep ρ σ H H' G G' → Rp X.K G' d v → Q v H') : rSetI X.K X.w [.ref a] H fun v H1 => rSortedSet X.w [v] H1 Q := by
  refine ⟨a, ns, rfl, hs, hl, fun p c np hc => ?_⟩
  refine ⟨p, ns, c, rfl, upd_same, by omega, fun p' np' => ?_⟩
  have E1 := E0.new (o := SetO X.w p (fun j => decide (j ∈ ns)) c) np
  exact k _ h _ _ _ (E1.frz np') (same_new (E1.gnone np')) ((Keep.new np).trans (.frz np')) (.lst upd_same (by rw [List.length_map, sizeLine_eq]; have := sortU_len ns; omega) (Rps.of_ints _))
theorem ls_fin {ρ : List S} {σ : St} {H G : Hp} {a : Addr} {ns : List Int} {R : D → Prop} {Q : VK} (E0 : EnvOk X.K F ρ σ H G) (hs : SqL X.K H a (ns.map V.int) ∨ SqT X.K H a (ns.map V.int)) (hl : ns.length ≤ 4000) (h : R (.int (sortU ns).length))
    (k : ∀ d, R d → ∀ v H' G', EnvOk X.K F ρ σ H' G' → Same G G' → Keep ρ σ H H' G G' → Rp X.K G' d v → Q v H') : rSetI X.K X.w [.ref a] H fun v H1 => rLenSet X.w [v] H1 Q := by
  refine ⟨a, ns, rfl, hs, hl, fun p c np hc => ?_⟩
  refine ⟨p, ns, c, rfl, upd_same, ?_⟩
  exact k _ h _ _ _ (E0.new np) (Same.refl G) (.new np) (.int _)
theorem one_call {x y : Str} {r r2 : List V → Hp → VK → Prop} {id : String} {te : TE} (hc1 : CallR X (.type "set") r) (hc2 : CallR X (.builtin id) r2) (g1 : Gl X "set") (m1 : X.mg "set" = none) (g2 : Gl X y) (m2 : X.mg y = none) (hv : bootBuiltins y = some (.builtin id)) (he : PE X e te)
    (hn : y ≠ "__name__" := by decide) (hdb : (y == ("__debug__" : Str)) = false := by decide)
    (hs : starEach [e] X.env = (false, eval e X.env) :: starEach [] X.env := by rfl) (hpl : (backTo pos2 (starEach [] X.env)).any (·.1) = false := by rfl)
    (hs' : starEach [.Call (.Name "set" p2) [e] [] pos2] X.env = (false, eval (.Call (.Name "set" p2) [e] [] pos2) X.env) :: starEach [] X.env := by rfl) (hpl' : (backTo pos (starEach [] X.env)).any (·.1) = false := by rfl) :
    PE X (.Call (.Name y p) [.Call (.Name "set" p2) [e] [] pos2] [] pos) (fun σ H Q => te σ H fun v H1 => r [v] H1 fun u H2 => r2 [u] H2 Q) :=
  (pe_callB hc2 g2 m2 hv (pa_cons (pe_callTy hc1 g1 m1 PyProof.Rows.boot_set (pa_cons he pa_nil hs) (by decide) (by decide) hs hpl) pa_nil hs') hn hdb hs' hpl').imp fun σ H Q h => h
theorem seq_ints {ρ : List S} {σ : St} {H G : Hp} {d : D} {v : V} {ds : List D} {ns : List Int} (E0 : EnvOk X.K F ρ σ H G) (r : Rp X.K G d v) (hi : itemsD d = some ds) (hn : unInts ds = some ns) : ∃ a, v = .ref a ∧ (SqL X.K H a (ns.map V.int) ∨ SqT X.K H a (ns.map V.int)) := by
  cases unInts_of hn
  cases r with
  | tup hx hz rs => cases hi; cases rs.ints; exact ⟨_, rfl, .inr (Same.seqT E0.sub hx)⟩
  | lst hx hz rs => cases hi; cases rs.ints; exact ⟨_, rfl, .inl (.inl (.inl (E0.sub _ _ hx)))⟩
  | _ => cases hi
section
variable (hc : X.calm = true) (g1 : Gl X "set") (m1 : X.mg "set" = none)
include hc g1 m1
theorem e_sortSet (g2 : Gl X "sorted") (m2 : X.mg "sorted" = none) (he : PE X e (lE X F E ta)) (hs : starEach [e] X.env = (false, eval e X.env) :: starEach [] X.env := by rfl) :
    PE X (.Call (.Name "sorted" p) [.Call (.Name "set" p2) [e] [] pos2] [] pos) (lE X F E (dOn gSS (dItems ta))) :=
  (one_call (x := "set") (cr_setI hc) (cr_sortedSet hc) g1 m1 g2 m2 (by decide +kernel) he (hs := hs)).imp fun σ H Q ⟨ρ, G, R, Z, E0, h, k, z⟩ => by
    refine ⟨ρ, G, _, Z, E0, h, fun d hd v H1 G1 E1 s1 k1 r => ?_, z⟩
    obtain ⟨ds, hi, ns, hn, hl, hR⟩ := hd
    obtain ⟨a, rfl, hs⟩ := seq_ints E1 r hi hn
    exact ss_fin E1 hs hl hR fun d hd v H2 G2 E2 s2 k2 r => k d hd v H2 G2 E2 (s1.trans s2) (k1.trans k2) r
theorem e_sortSetL (g2 : Gl X "sorted") (m2 : X.mg "sorted" = none) (he : PE X e (lL X F E tl)) (hs : starEach [e] X.env = (false, eval e X.env) :: starEach [] X.env := by rfl) :
    PE X (.Call (.Name "sorted" p) [.Call (.Name "set" p2) [e] [] pos2] [] pos) (lE X F E (dOn gSS tl)) :=
  (one_call (x := "set") (cr_setI hc) (cr_sortedSet hc) g1 m1 g2 m2 (by decide +kernel) he (hs := hs)).imp fun σ H Q ⟨ρ, G, R, Z, E0, h, k, z⟩ => by
    refine ⟨ρ, G, _, Z, E0, h, fun ds hd v H1 G1 E1 s1 k1 r => ?_, z⟩
    obtain ⟨ns, hn, hl, hR⟩ := hd
    obtain ⟨a, vs, rfl, hz, rs, kk⟩ := r
    cases unInts_of hn
    cases rs.ints
    exact ss_fin E1 (.inl (.inl (.inl (kk H1 (KeepO.refl ρ σ H1))))) hl hR fun d hd v H2 G2 E2 s2 k2 r => k d hd v H2 G2 E2 (s1.trans s2) (k1.trans k2) r
theorem e_lenSet (g2 : Gl X "len") (m2 : X.mg "len" = none) (he : PE X e (lE X F E ta)) (hs : starEach [e] X.env = (false, eval e X.env) :: starEach [] X.env := by rfl) :
    PE X (.Call (.Name "len" p) [.Call (.Name "set" p2) [e] [] pos2] [] pos) (lE X F E (dOn gLS (dItems ta))) :=
  (one_call (x := "set") (cr_setI hc) cr_lenSet g1 m1 g2 m2 (by decide +kernel) he (hs := hs)).imp fun σ H Q ⟨ρ, G, R, Z, E0, h, k, z⟩ => by
    refine ⟨ρ, G, _, Z, E0, h, fun d hd v H1 G1 E1 s1 k1 r => ?_, z⟩
    obtain ⟨ds, hi, ns, hn, hl, hR⟩ := hd
    obtain ⟨a, rfl, hs⟩ := seq_ints E1 r hi hn
    exact ls_fin E1 hs hl hR fun d hd v H2 G2 E2 s2 k2 r => k d hd v H2 G2 E2 (s1.trans s2) (k1.trans k2) r
theorem e_lenSetL (g2 : Gl X "len") (m2 : X.mg "len" = none) (he : PE X e (lL X F E tl)) (hs : starEach [e] X.env = (false, eval e X.env) :: starEach [] X.env := by rfl) :
    PE X (.Call (.Name "len" p) [.Call (.Name "set" p2) [e] [] pos2] [] pos) (lE X F E (dOn gLS tl)) :=
  (one_call (x := "set") (cr_setI hc) cr_lenSet g1 m1 g2 m2 (by decide +kernel) he (hs := hs)).imp fun σ H Q ⟨ρ, G, R, Z, E0, h, k, z⟩ => by
    refine ⟨ρ, G, _, Z, E0, h, fun ds hd v H1 G1 E1 s1 k1 r => ?_, z⟩
    obtain ⟨ns, hn, hl, hR⟩ := hd
    obtain ⟨a, vs, rfl, hz, rs, kk⟩ := r
    cases unInts_of hn
    cases rs.ints
    exact ls_fin E1 (.inl (.inl (.inl (kk H1 (KeepO.refl ρ σ H1))))) hl hR fun d hd v H2 G2 E2 s2 k2 r => k d hd v H2 G2 E2 (s1.trans s2) (k1.trans k2) r
end
end
end DL
namespace DL
open PySem PySem.Spec PyProof.Rows L2

theorem pyDs_map : ∀ ds : List D, pyDs ds = ds.map pyD
  | [] => rfl
  | d :: ds => by rw [pyDs, pyDs_map ds]; rfl
mutual
theorem pyD_inj0 : ∀ (d e : D), (pyD d).canLay0 = true → pyD d = pyD e → d = e
  | .non, e, _, h => by cases e <;> first | rfl | (simp [pyD] at h)
  | .bl b, e, _, h => by cases e <;> first | (simp [pyD] at h; rw [h]) | (simp [pyD] at h)
  | .int b, e, _, h => by cases e <;> first | (simp [pyD] at h; rw [h]) | (simp [pyD] at h)
  | .str b, e, _, h => by cases e <;> first | (simp [pyD] at h; rw [h]) | (simp [pyD] at h)
  | .tup xs, e, o, h => by
    cases e with
    | tup ys => rw [pyDs_inj0 xs ys (by simpa [pyD, PyData.canLay0] using o) (by simpa [pyD] using h)]
    | _ => simp [pyD] at h
  | .lst xs, e, o, h => by
    cases e with
    | lst ys => rw [pyDs_inj0 xs ys (by simpa [pyD, PyData.canLay0] using o) (by simpa [pyD] using h)]
    | _ => simp [pyD] at h
  | .dk _ _, _, o, _ => by simp [pyD, PyData.canLay0] at o
  | .dt _ _, _, o, _ => by simp [pyD, PyData.canLay0] at o
  | .set _, _, o, _ => by simp [pyD, PyData.canLay0] at o
  | .ref _, _, o, _ => by simp [pyD, PyData.canLay0] at o
theorem pyDs_inj0 : ∀ (ds es : List D), PyData.canLayAll0 (pyDs ds) = true → pyDs ds = pyDs es → ds = es
  | [], [], _, _ => rfl
  | [], _ :: _, _, h => by simp [pyDs] at h
  | _ :: _, [], _, h => by simp [pyDs] at h
  | d :: ds, e :: es, o, h => by
    have o' : (pyD d).canLay0 = true ∧ PyData.canLayAll0 (pyDs ds) = true := by simpa [pyDs, PyData.canLayAll0] using o
    have h' : pyD d = pyD e ∧ pyDs ds = pyDs es := by simpa [pyDs] using h
    rw [pyD_inj0 d e o'.1 h'.1, pyDs_inj0 ds es o'.2 h'.2]
end
theorem pyD_inj {d e : D} (o : okD d = true) (h : pyD d = pyD e) : d = e := pyD_inj0 d e (lay_ok o) h

/-! ### max, min of data -/
def dMax (d : D) (ds : List D) : D := ds.foldl (fun a y => if PySem.W.dataLt (pyD a) (pyD y) then y else a) d
def dMin (d : D) (ds : List D) : D := ds.foldl (fun a y => if PySem.W.dataLt (pyD y) (pyD a) then y else a) d
theorem dMax_py : ∀ (d : D) (ds : List D), pyD (dMax d ds) = PySem.W.maxD (pyD d) (ds.map pyD)
  | d, [] => rfl
  | d, e :: ds => by
    show pyD (dMax (if PySem.W.dataLt (pyD d) (pyD e) then e else d) ds) = PySem.W.maxD (if PySem.W.dataLt (pyD d) (pyD e) then pyD e else pyD d) (ds.map pyD)
    rw [dMax_py _ ds]
    congr 1
    split <;> rfl
theorem dMin_py : ∀ (d : D) (ds : List D), pyD (dMin d ds) = PySem.W.minD (pyD d) (ds.map pyD)
  | d, [] => rfl
  | d, e :: ds => by
    show pyD (dMin (if PySem.W.dataLt (pyD e) (pyD d) then e else d) ds) = PySem.W.minD (if PySem.W.dataLt (pyD e) (pyD d) then pyD e else pyD d) (ds.map pyD)
    rw [dMin_py _ ds]
    congr 1
    split <;> rfl
structure MaxOk (ds : List D) : Prop where
  al : PySem.W.AlikeAll (ds.map pyD)
  dp : PyData.depthAll (ds.map pyD) ≤ 60
  ok : ∀ d ∈ ds, okD d = true
theorem dMax_mem : ∀ (ds : List D) (d : D), dMax d ds ∈ d :: ds
  | [], d => List.mem_cons_self
  | e :: ds, d => by
    have := dMax_mem ds (if PySem.W.dataLt (pyD d) (pyD e) then e else d)
    show dMax (if PySem.W.dataLt (pyD d) (pyD e) then e else d) ds ∈ _
    rcases List.mem_cons.mp this with h | h
    · rw [h]; split <;> simp
    · exact List.mem_cons_of_mem _ (List.mem_cons_of_mem _ h)
theorem dMin_mem : ∀ (ds : List D) (d : D), dMin d ds ∈ d :: ds
  | [], d => List.mem_cons_self
  | e :: ds, d => by
    have := dMin_mem ds (if PySem.W.dataLt (pyD e) (pyD d) then e else d)
    show dMin (if PySem.W.dataLt (pyD e) (pyD d) then e else d) ds ∈ _
    rcases List.mem_cons.mp this with h | h
    · rw [h]; split <;> simp
    · exact List.mem_cons_of_mem _ (List.mem_cons_of_mem _ h)
theorem each_readsAll {X : Cx} {pins : List (Addr × Obj)} {σ : St} {H G : Hp} {s : Shared} (I : Inv X pins σ H s) (sm : Same G H) {us : List Value} {vs : List V} {ds : List D} (rv : Vals vs us) (rs : Rps X.K G ds vs) (ok : ∀ d ∈ ds, okD d = true) : ∃ as, ReadsAll s.heap us (ds.map pyD) as := by
  have : PyData.canLayAll0 (pyDs ds) = true := by
    clear rs
    induction ds with
    | nil => rfl
    | cons d ds ih =>
      rw [pyDs, PyData.canLayAll0, lay_ok (ok d List.mem_cons_self), ih fun e he => ok e (List.mem_cons_of_mem _ he)]
      rfl
  have q := Dp.readsAll I _ _ _ (rs.dp sm _ this) rv
  rw [pyDs_map] at q
  exact q
/-- the item that reads as the most -/
theorem pick_item {X : Cx} {G : Hp} {ds : List D} {vs : List V} {us : List Value} {h' : Heap} {i : Nat} {v : Value} {m : D} {bs : List Addr} (rv : Vals vs us) (rs : Rps X.K G ds vs) (hv : us[i]? = some v) (al : PySem.W.AlikeAll (ds.map pyD)) (hm : m ∈ ds)
    (ok : ∀ d ∈ ds, okD d = true) (hr : Reads h' v (pyD m) bs) (rd : ∀ d x, d ∈ ds → Rp X.K G d x → RelV x v → ∃ as, Reads h' v (pyD d) as) : ∃ x, RelV x v ∧ Rp X.K G m x := by
  obtain ⟨hl, e⟩ := List.getElem?_eq_some_iff.mp hv
  have hl' : i < vs.length := by rw [rv.length]; exact hl
  obtain ⟨u, hu, ru⟩ := rv.get (List.getElem?_eq_getElem hl')
  rw [hv] at hu
  cases hu
  obtain ⟨d, hd, rd'⟩ := rs.get (List.getElem?_eq_getElem hl')
  have hdm := List.mem_of_getElem? hd
  obtain ⟨as, r2⟩ := rd d _ hdm rd' ru
  have e2 : pyD d = pyD m := PySem.W.alike_unique _ _ _ _ _ (al.1 _ (List.mem_map_of_mem hdm) _ (List.mem_map_of_mem hm)) r2 hr
  rw [← pyD_inj (ok d hdm) e2]
  exact ⟨_, ru, rd'⟩
def rMaxD (K : PySem.W.Frag) (best : D → List D → D) : List V → Hp → VK → Prop := fun xs H Q => ∃ (a : Addr) (vs : List V) (d : D) (ds : List D) (G : Hp), xs = [.ref a] ∧ (SqL K H a vs ∨ SqT K H a vs) ∧ Same G H ∧ Rps K G (d :: ds) vs ∧ MaxOk (d :: ds) ∧ ∀ x, Rp K G (best d ds) x → Q x H
section
variable {X : Cx} {F : Fx} {E : EX} {e : Expr} {ta : DW D} {tl : DW (List D)} {p pos p2 pos2 : Pos}
theorem max_fin {pins : List (Addr × Obj)} {σ : St} {H G : Hp} {s : Shared} {vs : List V} {its : List Value} {d m : D} {ds : List D} {Q : VK} (I : Inv X pins σ H s) (sm : Same G H) (rv : Vals vs its) (rs : Rps X.K G (d :: ds) vs) (ok : MaxOk (d :: ds)) (hm : m ∈ d :: ds) (q : ∀ x, Rp X.K G m x → Q x H)
    {i : Nat} {v : Value} {h' : Heap} {tk : Nat} {bs : List Addr} (hv : its.toArray[i]? = some v) (hr : Reads h' v (pyD m) bs) (hk : ∀ b o, s.heap.get? b = some o → h'.get? b = some o) : EP X pins σ Q v { s with heap := h', toks := tk } := by
  obtain ⟨x, rx, rp⟩ := pick_item rv rs (by simpa using hv) ok.al hm ok.ok hr fun d x hd rd ru => by
    obtain ⟨as, r⟩ := Dp.reads I _ _ _ (rd.dp sm _ (lay_ok (ok.ok d hd))) ru
    exact ⟨as, PyProof.Rows.Reads.keeps hk r⟩
  exact ⟨x, H, I.kept hk, rx, q x rp⟩
theorem cr_maxD (hc : X.calm = true) (hu : X.A.units + 64 < cLine) : CallR X (.builtin "max") (rMaxD X.K dMax) := by
  intro pins s σ H xs us Q I r h
  obtain ⟨a, vs, d, ds, G, rfl, hs, sm, rs, ok, q⟩ := h
  rw [Vals.ref1 r]
  rcases hs with hs | hs
  · obtain ⟨its, rv, pl, _⟩ := I.list hs
    obtain ⟨as, ra⟩ := each_readsAll I sm rv rs ok.ok
    refine PySem.W.max_list_data (x := pyD d) (xs := ds.map pyD) (I.ok.hd hc) pl.isList (by simpa using ra) ok.al (by have h0 := ok.dp; rw [List.map_cons] at h0; omega) fun i v h' tk bs hv hr hk => ?_
    rw [← dMax_py] at hr
    exact max_fin I sm rv rs ok (dMax_mem ds d) q hv hr hk
  · obtain ⟨its, rv, pl, _⟩ := I.tuple hs
    obtain ⟨as, ra⟩ := each_readsAll I sm rv rs ok.ok
    refine PySem.W.max_tuple_data (x := pyD d) (xs := ds.map pyD) (I.ok.hd hc) pl (by simpa using ra) ok.al (by have h0 := ok.dp; rw [List.map_cons] at h0; omega) fun i v h' tk bs hv hr hk => ?_
    rw [← dMax_py] at hr
    exact max_fin I sm rv rs ok (dMax_mem ds d) q hv hr hk
theorem cr_minD (hc : X.calm = true) (hu : X.A.units + 64 < cLine) : CallR X (.builtin "min") (rMaxD X.K dMin) := by
  intro pins s σ H xs us Q I r h
  obtain ⟨a, vs, d, ds, G, rfl, hs, sm, rs, ok, q⟩ := h
  rw [Vals.ref1 r]
  rcases hs with hs | hs
  · obtain ⟨its, rv, pl, _⟩ := I.list hs
    obtain ⟨as, ra⟩ := each_readsAll I sm rv rs ok.ok
    refine PySem.W.min_list_data (x := pyD d) (xs := ds.map pyD) (I.ok.hd hc) pl.isList (by simpa using ra) ok.al (by have h0 := ok.dp; rw [List.map_cons] at h0; omega) fun i v h' tk bs hv hr hk => ?_
    rw [← dMin_py] at hr
    exact max_fin I sm rv rs ok (dMin_mem ds d) q hv hr hk
  · obtain ⟨its, rv, pl, _⟩ := I.tuple hs
    obtain ⟨as, ra⟩ := each_readsAll I sm rv rs ok.ok
    refine PySem.W.min_tuple_data (x := pyD d) (xs := ds.map pyD) (I.ok.hd hc) pl (by simpa using ra) ok.al (by have h0 := ok.dp; rw [List.map_cons] at h0; omega) fun i v h' tk bs hv hr hk => ?_
    rw [← dMin_py] at hr
    exact max_fin I sm rv rs ok (dMin_mem ds d) q hv hr hk
def gBest (best : D → List D → D) (ds : List D) (R : D → Prop) : Prop := ∃ d r, ds = d :: r ∧ MaxOk ds ∧ R (best d r)
theorem cl_best {best : D → List D → D} : CallL X F (rMaxD X.K best) (gBest best) := by
  intro ρ σ H G a ds vs R Q E0 ha hz rs h k
  obtain ⟨d, r, rfl, ok, hR⟩ := h
  exact ⟨a, vs, d, r, G, rfl, .inl (.inl (.inl ha)), E0.sub, rs, ok, fun x rx => k _ hR _ H G E0 (Same.refl G) .rfl rx⟩
def gBestD (best : D → List D → D) : DA
  | [.lst ds], R => gBest best ds R
  | [.tup ds], R => gBest best ds R
  | _, _ => False
theorem gBestD_of {best : D → List D → D} {ds : List D} {R : D → Prop} (h : gBestD best ds R) : ∃ d ds', ds = [d] ∧ itemsD d = some ds' ∧ gBest best ds' R := by
  match ds, h with
  | [.lst ds'], h => exact ⟨_, ds', rfl, rfl, h⟩
  | [.tup ds'], h => exact ⟨_, ds', rfl, rfl, h⟩
theorem cd_best {best : D → List D → D} : CallD X F (rMaxD X.K best) (gBestD best) := by
  intro ρ σ H G ds vs R Q E0 rs h k
  obtain ⟨d, ds', rfl, hi, d', r, rfl, ok, hR⟩ := gBestD_of h
  cases rs with
  | cons r1 rr =>
    cases rr
    cases r1 with
    | tup hx hz rs => cases hi; exact ⟨_, _, d', r, G, rfl, .inr (Same.seqT E0.sub hx), E0.sub, rs, ok, fun x rx => k _ hR _ H G E0 (Same.refl G) .rfl rx⟩
    | lst hx hz rs => cases hi; exact ⟨_, _, d', r, G, rfl, .inl (.inl (.inl (E0.sub _ _ hx))), E0.sub, rs, ok, fun x rx => k _ hR _ H G E0 (Same.refl G) .rfl rx⟩
    | _ => cases hi
/-- max, min of a list or of two ints -/
abbrev rBestAll (K : PySem.W.Frag) (best : D → List D → D) (f : Int → Int → Int) : List V → Hp → VK → Prop := fun xs H Q => rMaxD K best xs H Q ∨ ∃ i j, xs = [.int i, .int j] ∧ Q (.int (f i j)) H

/-! ### t.count(x) -/
def dCount (ta tb : DW D) : DW D := fun ρ R Z => ta ρ (fun d => ∃ ds, itemsD d = some ds ∧ tb ρ (fun x => (∀ d ∈ ds, okD d = true) ∧ PyData.plainAll (ds.map pyD) = true ∧ okD x = true ∧ (pyD x).plain = true ∧ (pyD x).depth ≤ 60 ∧ R (.int ((ds.countP fun y => eqvD y x : Nat) : Int))) Z) Z
end
end DL
namespace DL
open PySem PySem.Spec PyProof.Rows L2

/-! ### dicts -/
section
variable {κ : Type} [DecidableEq κ] {α β : Type}
def zget : List κ → List α → κ → Option α
  | k' :: ks, x :: xs, k => if k' = k then some x else zget ks xs k
  | _, _, _ => none
def kput (ks : List κ) (k : κ) : List κ := if ks.any (fun k' => decide (k' = k)) = true then ks else ks ++ [k]
def zset : List κ → List α → κ → α → List α
  | k' :: ks, y :: ys, k, x => (if k' = k then x else y) :: zset ks ys k x
  | _, _, _, _ => []
def dput (ks : List κ) (xs : List α) (k : κ) (x : α) : List α := if ks.any (fun k' => decide (k' = k)) = true then zset ks xs k x else xs ++ [x]
theorem valV_zip (k : κ) : ∀ (ks : List κ) (vs : List V), valV (ks.zip vs) k = zget ks vs k
  | [], _ => rfl
  | _ :: _, [] => rfl
  | k' :: ks, v :: vs => by
    rw [List.zip_cons_cons, zget]
    split
    · rename_i h; rw [valV_pos h]
    · rename_i h; rw [valV_neg h]; exact valV_zip k ks vs
theorem zset_zip (k : κ) (v : V) : ∀ (ks : List κ) (vs : List V), ks.length = vs.length → (ks.zip vs).map (fun kv => if kv.1 = k then (kv.1, v) else kv) = ks.zip (zset ks vs k v)
  | [], [], _ => rfl
  | [], _ :: _, h => by cases h
  | _ :: _, [], h => by cases h
  | k' :: ks, x :: vs, h => by
    rw [List.zip_cons_cons, List.map_cons, zset_zip k v ks vs (by simpa using h)]
    rw [zset, List.zip_cons_cons]
    split <;> rfl
theorem zset_length (k : κ) (x : α) : ∀ (ks : List κ) (xs : List α), ks.length = xs.length → (zset ks xs k x).length = xs.length
  | [], [], _ => rfl
  | [], _ :: _, h => by cases h
  | _ :: _, [], h => by cases h
  | k' :: ks, y :: xs, h => by rw [zset, List.length_cons, List.length_cons, zset_length k x ks xs (by simpa using h)]
theorem any_zip (k : κ) : ∀ (ks : List κ) (vs : List V), ks.length = vs.length → ((ks.zip vs).any fun kv => decide (kv.1 = k)) = ks.any fun k' => decide (k' = k)
  | [], [], _ => rfl
  | [], _ :: _, h => by cases h
  | _ :: _, [], h => by cases h
  | k' :: ks, x :: vs, h => by rw [List.zip_cons_cons, List.any_cons, List.any_cons, any_zip k ks vs (by simpa using h)]
theorem putK_zip (ks : List κ) (vs : List V) (k : κ) (v : V) (h : ks.length = vs.length) : putK (ks.zip vs) k v = (kput ks k).zip (dput ks vs k v) ∧ (kput ks k).length = (dput ks vs k v).length := by
  unfold putK kput dput
  rw [any_zip k ks vs h]
  split
  · exact ⟨zset_zip k v ks vs h, by rw [zset_length k v ks vs h]; exact h⟩
  · exact ⟨by rw [List.zip_append h]; rfl, by rw [List.length_append, List.length_append, h]; rfl⟩
def kmerge : List κ → List α → List (κ × α) → List κ × List α
  | ks, xs, [] => (ks, xs)
  | ks, xs, (k, x) :: r => kmerge (kput ks k) (dput ks xs k x) r
end
theorem mergeK_zip : ∀ (more : List (Key × V)) (ks : List Key) (vs : List V), ks.length = vs.length → mergeK (ks.zip vs) more = (kmerge ks vs more).1.zip (kmerge ks vs more).2 ∧ (kmerge ks vs more).1.length = (kmerge ks vs more).2.length
  | [], ks, vs, h => ⟨rfl, h⟩
  | (k, v) :: r, ks, vs, h => by
    obtain ⟨h1, h2⟩ := putK_zip ks vs k v h
    show mergeK (putK (ks.zip vs) k v) r = _ ∧ _
    rw [h1]
    exact mergeK_zip r _ _ h2
section
variable {K : PySem.W.Frag} {G : Hp} {κ : Type} [DecidableEq κ]
theorem Rps.zget {k : κ} : ∀ {ks : List κ} {ds : List D} {vs : List V}, Rps K G ds vs → (∀ d, DL.zget ks ds k = some d → ∃ v, DL.zget ks vs k = some v ∧ Rp K G d v) ∧ (DL.zget ks ds k = none → DL.zget ks vs k = none)
  | [], _, _, r => ⟨fun d h => by (cases r <;> cases h), fun _ => by (cases r <;> rfl)⟩
  | k' :: ks, _, _, .nil => ⟨fun d h => by (cases h), fun _ => rfl⟩
  | k' :: ks, _, _, .cons r rs => by
    rw [DL.zget, DL.zget]
    split
    · exact ⟨fun d h => by (cases h; exact ⟨_, rfl, r⟩), fun h => by (cases h)⟩
    · exact Rps.zget rs
theorem Rps.zset {k : κ} {d : D} {v : V} (q : Rp K G d v) : ∀ {ks : List κ} {ds : List D} {vs : List V}, Rps K G ds vs → Rps K G (DL.zset ks ds k d) (DL.zset ks vs k v)
  | [], _, _, r => by cases r <;> exact .nil
  | k' :: ks, _, _, .nil => .nil
  | k' :: ks, _, _, .cons r rs => by
    rw [DL.zset, DL.zset]
    refine .cons ?_ (Rps.zset q rs)
    split
    · exact q
    · exact r
theorem Rps.dput {k : κ} {d : D} {v : V} (q : Rp K G d v) {ks : List κ} {ds : List D} {vs : List V} (r : Rps K G ds vs) : Rps K G (DL.dput ks ds k d) (DL.dput ks vs k v) := by
  unfold DL.dput
  split
  · exact r.zset q
  · exact r.append (.cons q .nil)
end
def keyD : D → Option Key
  | .int i => some (.inl i)
  | .str x => some (.inr x)
  | _ => none
def toKey : Key → D
  | .inl i => .int i
  | .inr x => .str x
theorem Rp.key {K : PySem.W.Frag} {G : Hp} {d : D} {v : V} {k : Key} (r : Rp K G d v) (h : keyD d = some k) : v = kV k := by
  cases r <;> first
    | (cases h; rfl)
    | cases h
theorem Rp.ofKey {K : PySem.W.Frag} {G : Hp} {k : Key} {v : V} (r : Rp K G (toKey k) v) : v = kV k := by
  cases k <;> (cases r; rfl)
/-- a dict to be read -/
def RelK (K : PySem.W.Frag) : List Key × List D → V → List S → St → Hp → Hp → Hp → Prop := fun kd v ρ σ _ H G => ∃ a vs, v = .ref a ∧ kd.1.length = vs.length ∧ Rps K G kd.2 vs ∧ ∀ H', KeepO ρ σ H H' → H' a = some (.dK (kd.1.zip vs))
abbrev lK (X : Cx) (F : Fx) (E : EX) (t : DW (List Key × List D)) : TE := lG X F E (RelK X.K) t
section
variable {X : Cx} {F : Fx} {E : EX} {a b c e o : Expr} {es : List Expr} {ta tb tc : DW D} {tl : DW (List D)} {tk : DW (List Key × List D)} {p p2 pos pos2 spos : Pos} {x : Str}
def dK (t : DW D) : DW (List Key × List D) := fun ρ R Z => t ρ (fun d => ∃ ks ds, d = .dk ks ds ∧ R (ks, ds)) Z
theorem k_ofE (h : PE X e (lE X F E ta)) : PE X e (lK X F E (dK ta)) := h.imp fun σ H Q ⟨ρ, G, R, Z, E0, h, k, z⟩ => by
  refine ⟨ρ, G, _, Z, E0, h, fun d hd v H1 G1 E1 s1 k1 r => ?_, z⟩
  obtain ⟨ks, ds, rfl, hd⟩ := hd
  cases r with
  | dk ga hz rs =>
    refine k _ hd _ _ _ E1 s1 k1 ⟨_, _, rfl, hz, rs, fun H' kp => kp _ _ (E1.sub _ _ ga) fun i e x => ?_⟩
    obtain ⟨b, h1, h2, _⟩ := E1.slot i _ e
    rw [h1] at x
    cases x
    rw [h2] at ga
    cases ga
def dOwnK (i : Nat) : DW (List Key × List D) := fun ρ R _ => ∃ ks ds, ρ[i]? = some (.ok ks ds) ∧ R (ks, ds)
theorem k_own (i : Nat) (hN : X.N[i]? = some x := by rfl) (hv : Vis X.env.scope x := by first | exact Or.inl rfl | exact Or.inr (Or.inl rfl) | exact Or.inr (Or.inr rfl)) (hd : (x == ("__debug__" : Str)) = false := by decide)
    (hcd : (x == ("__classdict__" : Str)) = false := by decide) : PE X (.Name x pos) (lK X F E (dOwnK i)) := (pe_var hN hv hd hcd).imp fun σ H Q ⟨ρ, G, R, Z, E0, ⟨ks, ds, hi, hd⟩, k, z⟩ => by
  obtain ⟨a, vs, h1, h2, h3, h4, hz, h5⟩ := E0.slot i _ hi
  refine ⟨_, h1, k _ hd _ _ _ E0 (Same.refl G) .rfl ⟨a, vs, rfl, hz, h5, fun H' kp => kp a _ h4 fun j e x => ?_⟩⟩
  have ij : i ≠ j := fun q => by subst q; rw [hi] at e; cases e
  exact E0.dis i j a _ _ ij hi e rfl rfl h1 x
/-- an own dict as frozen data -/
def dKF (i : Nat) : DW D := fun ρ R _ => ∃ ks ds, ρ[i]? = some (.ok ks ds) ∧ R (.dk ks ds)
/-- d[k], there -/
def dKGet (tk : DW (List Key × List D)) (ti : DW D) : DW D := fun ρ R Z => tk ρ (fun kd => ti ρ (fun d => ∃ k e, keyD d = some k ∧ zget kd.1 kd.2 k = some e ∧ R e) Z) Z
theorem e_kget (hu : X.A.units + 64 < cLine) (ho : PE X o (lK X F E tk)) (hi : PE X a (lE X F E ta)) (hs : NoSl a := by intro _ _; rfl) : PE X (.Subscript o a pos) (lE X F E (dKGet tk ta)) := (pe_dget (by omega) ho hi hs).imp fun σ H Q ⟨ρ, G, R, Z, E0, h, k, z⟩ => by
  refine ⟨ρ, G, _, Z, E0, h, fun kd hkd v H1 G1 E1 s1 k1 rl => ?_, z⟩
  refine ⟨ρ, G1, _, Z, E1, hkd, fun d hd v2 H2 G2 E2 s2 k2 r2 => ?_, z.mono s1⟩
  obtain ⟨key, e, hk, hg, hR⟩ := hd
  obtain ⟨a, vs, rfl, hz, rs, kk⟩ := rl
  cases r2.key hk
  obtain ⟨w, hw, rw'⟩ := (rs.zget (ks := kd.1) (k := key)).1 e hg
  refine ⟨a, w, rfl, ?_, k _ hR _ H2 G2 E2 (s1.trans s2) (k1.trans k2) (rw'.mono s2)⟩
  have q := DGet.k (kvs := kd.1.zip vs) (k := key) (kk H2 k2.obj)
  rw [valV_zip, hw] at q
  exact q
/-- k in d, k not in d -/
def dKIn (neg : Bool) (ti : DW D) (tk : DW (List Key × List D)) : DW D := fun ρ R Z => ti ρ (fun d => tk ρ (fun kd => ∃ k, keyD d = some k ∧ R (.bl (neg != (zget kd.1 kd.2 k).isSome))) Z) Z
theorem kin_fin {ρ : List S} {σ : St} {H H' G : Hp} {kd : List Key × List D} {a : Addr} {vs : List V} {key : Key} (rs : Rps X.K G kd.2 vs) (h : H' a = some (.dK (kd.1.zip vs))) : ∃ o, DGet H' a (kV key) o ∧ o.isSome = (zget kd.1 kd.2 key).isSome := by
  refine ⟨_, DGet.k h, ?_⟩
  rw [valV_zip]
  cases q : zget kd.1 kd.2 key with
  | none => rw [(rs.zget (ks := kd.1) (k := key)).2 q]; rfl
  | some d =>
    obtain ⟨w, hw, _⟩ := (rs.zget (ks := kd.1) (k := key)).1 d q
    rw [hw]
    rfl
theorem e_kin (hu : X.A.units + 64 < cLine) (hi : PE X a (lE X F E ta)) (ho : PE X o (lK X F E tk)) (hm : behindInMarks .In o = false := by rfl) : PE X (.Compare a [.In] [o] pos) (lE X F E (dKIn false ta tk)) := (pe_cmp (pc_din (by omega) hi ho) hm).imp fun σ H Q ⟨ρ, G, R, Z, E0, h, k, z⟩ => by
  refine ⟨ρ, G, _, Z, E0, h, fun d hd v H1 G1 E1 s1 k1 r1 => ?_, z⟩
  refine ⟨ρ, G1, _, Z, E1, hd, fun kd hkd v2 H2 G2 E2 s2 k2 rl => ?_, z.mono s1⟩
  obtain ⟨key, hk, hR⟩ := hkd
  obtain ⟨a, vs, rfl, hz, rs, kk⟩ := rl
  cases r1.key hk
  obtain ⟨o', h1, h2⟩ := kin_fin (ρ := ρ) (σ := σ) (H := H2) (key := key) rs (kk H2 (KeepO.refl ρ σ H2))
  refine ⟨a, o', rfl, h1, ?_⟩
  rw [h2]
  have q := k _ hR (.bl (zget kd.1 kd.2 key).isSome) H2 G2 E2 (s1.trans s2) (k1.trans k2)
  rw [Bool.false_bne] at q
  exact q (.bl _)
theorem e_knotin (hu : X.A.units + 64 < cLine) (hi : PE X a (lE X F E ta)) (ho : PE X o (lK X F E tk)) (hm : behindInMarks .NotIn o = false := by rfl) : PE X (.Compare a [.NotIn] [o] pos) (lE X F E (dKIn true ta tk)) := (pe_cmp (pc_dnotin (by omega) hi ho) hm).imp fun σ H Q ⟨ρ, G, R, Z, E0, h, k, z⟩ => by
  refine ⟨ρ, G, _, Z, E0, h, fun d hd v H1 G1 E1 s1 k1 r1 => ?_, z⟩
  refine ⟨ρ, G1, _, Z, E1, hd, fun kd hkd v2 H2 G2 E2 s2 k2 rl => ?_, z.mono s1⟩
  obtain ⟨key, hk, hR⟩ := hkd
  obtain ⟨a, vs, rfl, hz, rs, kk⟩ := rl
  cases r1.key hk
  obtain ⟨o', h1, h2⟩ := kin_fin (ρ := ρ) (σ := σ) (H := H2) (key := key) rs (kk H2 (KeepO.refl ρ σ H2))
  refine ⟨a, o', rfl, h1, ?_⟩
  rw [h2]
  have q := k _ hR (.bl (!(zget kd.1 kd.2 key).isSome)) H2 G2 E2 (s1.trans s2) (k1.trans k2)
  rw [Bool.true_bne] at q
  exact q (.bl _)
end
end DL
namespace DL
open PySem PySem.Spec PyProof.Rows L2
/-! ### sorted ints -/
def sortI (ns : List Int) : List Int := ns.mergeSort (fun a b => decide (a ≤ b))
theorem sortI_perm (ns : List Int) : (sortI ns).Perm ns := List.mergeSort_perm ns _
theorem sortI_le (ns : List Int) : (sortI ns).Pairwise (· ≤ ·) := by
  have h := List.pairwise_mergeSort (le := fun a b : Int => decide (a ≤ b)) (fun a b c h1 h2 => by simp at *; omega) (fun a b => by simp; omega) ns
  exact h.imp fun h => by simpa using h
theorem sort_uniq : ∀ {l m : List Int}, l.Perm m → l.Pairwise (· ≤ ·) → m.Pairwise (· ≤ ·) → l = m
  | [], m, p, _, _ => by rw [p.nil_eq]
  | x :: xs, [], p, _, _ => by have := p.length_eq; simp at this
  | x :: xs, y :: ys, p, h1, h2 => by
    have a1 := List.pairwise_cons.mp h1
    have a2 := List.pairwise_cons.mp h2
    have e : x = y := by
      have m1 : x ∈ y :: ys := p.mem_iff.mp List.mem_cons_self
      have m2 : y ∈ x :: xs := p.mem_iff.mpr List.mem_cons_self
      rcases List.mem_cons.mp m1 with q | q
      · exact q
      · rcases List.mem_cons.mp m2 with r | r
        · exact r.symm
        · have := a1.1 y r
          have := a2.1 x q
          omega
    subst e
    rw [sort_uniq ((List.perm_cons x).mp p) a1.2 a2.2]
theorem sortI_of {l m : List Int} (p : l.Perm m) (h : l.Pairwise (· ≤ ·)) : l = sortI m := sort_uniq (p.trans (sortI_perm m).symm) h (sortI_le m)
theorem sortI_U {ns : List Int} (h : ns.Nodup) : sortI ns = sortU ns := by
  refine (sortI_of (m := ns) ?_ ((sortU_asc ns).imp fun h => Int.le_of_lt h)).symm
  exact (List.perm_ext_iff_of_nodup ((sortU_asc ns).imp fun h => Int.ne_of_lt h) h).mpr fun k => mem_sortU
theorem sortI_length (ns : List Int) : (sortI ns).length = ns.length := (sortI_perm ns).length_eq

section
variable {X : Cx} {F : Fx} {E : EX} {a b c e o : Expr} {es : List Expr} {ta tb tc : DW D} {tl : DW (List D)} {tk : DW (List Key × List D)} {p p2 p3 pos pos2 pos3 spos : Pos} {x y : Str}
/-! ### sorted(d), keys ints -/
def rSortK : List V → Hp → VK → Prop := fun xs H Q => ∃ (a : Addr) (ns : List Int) (vs : List V), xs = [V.ref a] ∧ H a = some (.dK ((ns.map Sum.inl).zip vs)) ∧ ns.length = vs.length ∧ ∀ p, H p = none → Q (.ref p) (upd H p (.lst ((sortI ns).map V.int)))
theorem keysAre {vs : List (Key × Value)} {us : List Value} {P : Nat → Value → Prop} : ∀ {ns : List Int}, vs.map (·.1) = ns.map Sum.inl → us.length = vs.length → (∀ (j : Nat) (v : Value), us[j]? = some v → ∃ k x, vs[j]? = some (k, x) ∧ keyIs k v = true) → IntsAre us ns := by
  intro ns
  induction ns generalizing vs us with
  | nil =>
    intro h l _
    cases vs with
    | nil => cases us with
      | nil => exact .nil
      | cons _ _ => cases l
    | cons _ _ => cases h
  | cons n ns ih =>
    intro h l k
    cases vs with
    | nil => cases h
    | cons q vs => cases us with
      | nil => cases l
      | cons u us =>
        rw [List.map_cons, List.map_cons] at h
        injection h with h1 h2
        obtain ⟨kk, x, e1, e2⟩ := k 0 u rfl
        have e1 : q = (kk, x) := Option.some.inj e1
        subst e1
        have h1 : kk = Sum.inl n := h1
        subst h1
        rcases keyIs_shape e2 with ⟨i, t, e3, rfl⟩ | ⟨z, t, e3, _⟩
        · cases e3
          exact .cons _ t (ih h2 (by simpa using l) fun j v hv => k (j + 1) v (by simpa using hv))
        · cases e3
theorem zip_fst {ks : List Key} {vs : List V} (h : ks.length = vs.length) : (ks.zip vs).map (·.1) = ks := by
  rw [List.map_fst_zip (by omega)]
theorem cr_sortK (hc : X.calm = true) : CallR X (.builtin "sorted") rSortK := by
  intro pins s σ H xs us Q I r h
  obtain ⟨a, ns, vs, rfl, ha, hl, q⟩ := h
  rw [Vals.ref1 r]
  obtain ⟨z, hd, prs, rel, dd⟩ := dk_of I.hok ha
  have hlen := rel.length
  have hk := rel.keys
  rw [zip_fst (by rw [List.length_map]; exact hl)] at hk
  obtain ⟨ep, hat⟩ := dd.dictAt
  have hz : prs.length ≤ sizeLine := by rw [← hlen]; exact z
  refine Calls.call_function_entry kind_sorted plain_sorted entry_sorted (args_sorted1 _) ?_
  unfold Builtin.«sorted»
  refine wpAny_bind (m := checkCount "sorted" 1 1 _) (wpAny_pure ?_)
  refine wpAny_bind (PySem.W.kdu_collect (A := X.A.in1) (PySem.W.kdl_dict (knd := mixKind X.prog X.w) (kvs := prs) (ep := ep) hd) (I.ok.hd hc) hat hz fun h' tk acc hk' hacc => ?_)
  have hal : acc.toList.length = prs.length := by rw [Array.length_toList]; exact hacc.1
  have hI : IntsAre acc.toList ns := keysAre (P := fun _ _ => True) hk.symm hal fun j v e => hacc.2 j v (by rw [← Array.getElem?_toList]; exact e)
  refine wpAny_bind (wpAny_newList ?_ (by rw [hal]; exact hz))
  have hoL : (h'.push (seqObj "list" acc.toList.toArray 0)).get? h'.objs.size = some (seqObj "list" acc.toList.toArray 0) := Heap.get?_push_size _ rfl
  refine wpAny_bind (wpAny_holding (wpAny_call_entry slot_list_sort ⟨_, hoL, rfl⟩ entry_list_sort (SrtO.list_sort_ord (s := { s with heap := h'.push (seqObj "list" acc.toList.toArray 0), toks := tk }) SrtO.swo_int hoL (by rw [hal]; exact hz) (fun h2 => SrtO.ints_sortable hI h2) fun out h1 h2 => ⟨_, rfl, ?_⟩) (args_list_sort _)))
  obtain ⟨a1, a2, a3⟩ := SrtO.ints_out hI h1 h2
  obtain ⟨c, hc'⟩ := sortedHeap_at (vs := acc.toList) (out := out.toArray) hoL
  have e : out.map SrtO.iv = sortI ns := sortI_of a2 a3
  rw [e] at a1
  have I1 : Inv X pins σ H { s with heap := h', toks := tk } := I.kept hk'
  have np : H h'.objs.size = none := I1.hok.fresh (Nat.le_refl _)
  refine wpAny_pure ⟨_, rfl, .ref _, upd H h'.objs.size (.lst ((sortI ns).map V.int)), I1.laid (t' := tk) (fun b u eb => ?_) (Nat.le_refl _) ⟨by rw [List.length_map, sortI_length, hl]; rw [List.length_zip, List.length_map] at z; omega, out, c, vals_of_ints a1, hc'⟩, rfl, q _ np⟩
  have hlt := Heap.lt_size eb
  show (sortedHeap (h'.push (seqObj "list" acc.toList.toArray 0)) h'.objs.size acc.toList out.toArray).get? b = some u
  rw [sortedHeap_old (Nat.ne_of_lt hlt) (by rw [size_push']; exact Nat.lt_succ_of_lt hlt)]
  exact Heap.get?_push_of_some _ eb
def dSortK (tk : DW (List Key × List D)) : DW D := fun ρ R Z => tk ρ (fun kd => ∃ ns : List Int, kd.1 = ns.map Sum.inl ∧ ns.length ≤ sizeLine ∧ R (.lst ((sortI ns).map .int))) Z
theorem e_sortK (hc : X.calm = true) (hg : Gl X "sorted") (hm : X.mg "sorted" = none) (he : PE X e (lK X F E tk)) (hs : starEach [e] X.env = (false, eval e X.env) :: starEach [] X.env := by rfl) (hpl : (backTo pos (starEach [] X.env)).any (·.1) = false := by rfl) :
    PE X (.Call (.Name "sorted" p) [e] [] pos) (lE X F E (dSortK tk)) :=
  (pe_callB (cr_sortK hc) hg hm (by decide +kernel) (pa_cons he pa_nil hs) (by decide) (by decide) hs hpl).imp fun σ H Q ⟨ρ, G, R, Z, E0, h, k, z⟩ => by
    refine ⟨ρ, G, _, Z, E0, h, fun kd hd v H1 G1 E1 s1 k1 rl => ?_, z⟩
    obtain ⟨ns, en, hz, hR⟩ := hd
    obtain ⟨a, vs, rfl, hl, rs, kk⟩ := rl
    rw [en] at hl kk
    refine ⟨a, ns, vs, rfl, kk H1 (KeepO.refl ρ σ H1), by rw [List.length_map] at hl; exact hl, fun p np => ?_⟩
    have sn := same_new (o := .lst ((sortI ns).map V.int)) (E1.gnone np)
    exact k _ hR _ _ _ (E1.frz np) (s1.trans sn) (k1.trans (.frz np)) (.lst upd_same (by rw [List.length_map, sortI_length]; exact hz) (Rps.of_ints _))

/-! ### dict(xs) of pairs -/
def unPairs : List D → Option (List (Key × D))
  | [] => some []
  | .tup [k, v] :: r => match keyD k, unPairs r with
    | some kk, some q => some ((kk, v) :: q)
    | _, _ => none
  | _ => none
theorem unPairs_cons {d : D} {r : List D} {q : List (Key × D)} (h : unPairs (d :: r) = some q) : ∃ k v kk q', d = .tup [k, v] ∧ keyD k = some kk ∧ unPairs r = some q' ∧ q = (kk, v) :: q' := by
  unfold unPairs at h
  split at h
  · rename_i e; cases e
  · rename_i k v r' e
    cases e
    split at h
    · rename_i kk q' h1 h2
      cases h
      exact ⟨k, v, kk, q', rfl, h1, h2, rfl⟩
    · cases h
  · cases h
theorem pairs_rps {K : PySem.W.Frag} {G H : Hp} (s : Same G H) : ∀ {ds : List D} {vs : List V} {q : List (Key × D)}, Rps K G ds vs → unPairs ds = some q → ∃ (ps : List Addr) (kvs : List (Key × V)), vs = ps.map V.ref ∧ Paired (fun p kv => SqT K H p [kV kv.1, kv.2]) ps kvs ∧ kvs.map (·.1) = q.map (·.1) ∧ Rps K G (q.map (·.2)) (kvs.map (·.2)) := by
  intro ds
  induction ds with
  | nil =>
    intro vs q r h
    cases r
    cases h
    exact ⟨[], [], rfl, .nil, rfl, .nil⟩
  | cons d ds ih =>
    intro vs q r h
    obtain ⟨k, v, kk, q', rfl, hk, h2, rfl⟩ := unPairs_cons h
    cases r with
    | cons r1 rs =>
      obtain ⟨ps, kvs, e, hp, hf, hr⟩ := ih rs h2
      cases r1 with
      | tup hx hz r1 =>
        cases r1 with
        | cons ra rb => cases rb with
          | cons rb rc =>
            cases rc
            cases ra.key hk
            exact ⟨_ :: ps, (kk, _) :: kvs, by rw [e]; rfl, .cons (Same.seqT s hx) hp, by rw [List.map_cons, List.map_cons, hf], .cons rb hr⟩
theorem kmerge_rps {K : PySem.W.Frag} {G : Hp} : ∀ {q : List (Key × D)} {kvs : List (Key × V)} {ks : List Key} {ds : List D} {vs : List V}, kvs.map (·.1) = q.map (·.1) → Rps K G (q.map (·.2)) (kvs.map (·.2)) → Rps K G ds vs →
    (kmerge ks ds q).1 = (kmerge ks vs kvs).1 ∧ Rps K G (kmerge ks ds q).2 (kmerge ks vs kvs).2
  | [], [], _, _, _, _, _, r => ⟨rfl, r⟩
  | [], _ :: _, _, _, _, h, _, _ => by cases h
  | _ :: _, [], _, _, _, h, _, _ => by cases h
  | (k, d) :: q, (k', v) :: kvs, ks, ds, vs, h, rr, r => by
    rw [List.map_cons, List.map_cons] at h
    injection h with h1 h2
    have h1 : k' = k := h1
    subst h1
    cases rr with
    | cons ra rb =>
      rw [kmerge, kmerge]
      exact kmerge_rps (q := q) (kvs := kvs) h2 rb (r.dput ra)
def gDict (ds : List D) (R : D → Prop) : Prop := ∃ q, unPairs ds = some q ∧ R (.dk (kmerge [] [] q).1 (kmerge [] [] q).2)
abbrev rDictP (K : PySem.W.Frag) : List V → Hp → VK → Prop := fun xs H Q => ∃ (a : Addr) (ps : List Addr) (kvs : List (Key × V)), xs = [.ref a] ∧ SqL K H a (ps.map V.ref) ∧ Paired (fun p kv => SqT K H p [kV kv.1, kv.2]) ps kvs ∧ ∀ p, H p = none → Q (.ref p) (upd H p (.dK (mergeK [] kvs)))
theorem dict_fin {ρ : List S} {σ : St} {H G : Hp} {a : Addr} {ds : List D} {vs : List V} {R : D → Prop} {Q : VK} (E0 : EnvOk X.K F ρ σ H G) (ha : SqL X.K H a vs) (rs : Rps X.K G ds vs) (h : gDict ds R)
    (k : ∀ d, R d → ∀ v H' G', EnvOk X.K F ρ σ H' G' → Same G G' → Keep ρ σ H H' G G' → Rp X.K G' d v → Q v H') : rDictP X.K [.ref a] H Q := by
  obtain ⟨q, hq, hR⟩ := h
  obtain ⟨ps, kvs, rfl, hp, hf, hr⟩ := pairs_rps E0.sub rs hq
  obtain ⟨e1, e2⟩ := mergeK_zip kvs [] [] rfl
  obtain ⟨e3, e4⟩ := kmerge_rps (ks := []) hf hr (.nil (K := X.K) (G := G))
  refine ⟨a, ps, kvs, rfl, ha, hp, fun p np => ?_⟩
  have e1 : mergeK [] kvs = (kmerge [] [] kvs).1.zip (kmerge [] [] kvs).2 := e1
  rw [e1]
  have sn := same_new (o := .dK ((kmerge [] [] kvs).1.zip (kmerge [] [] kvs).2)) (E0.gnone np)
  exact k _ hR _ _ _ (E0.frz np) sn (.frz np) (.dk (by rw [e3]; exact upd_same) (by rw [e3]; exact e2) (e4.mono sn))
theorem cl_dict : CallL X F (rDictP X.K) gDict := by
  intro ρ σ H G a ds vs R Q E0 ha hz rs h k
  exact dict_fin E0 (.inl (.inl ha)) rs h k
def gDictD : DA := fun ds R => ∃ xs, ds = [.lst xs] ∧ gDict xs R
theorem cd_dict : CallD X F (rDictP X.K) gDictD := by
  intro ρ σ H G ds vs R Q E0 rs h k
  obtain ⟨xs, rfl, h⟩ := h
  cases rs with
  | cons r1 rr =>
    cases rr
    cases r1 with
    | lst hx hz rs => exact dict_fin E0 (.inl (.inl (E0.sub _ _ hx))) rs h k

/-! ### own dicts -/
/-- d = {} -/
def dNewK (i : Nat) : DS := fun B ρ => B.nx (ρ.set i (.ok [] []))
theorem s_newK (i : Nat) {pos' : Pos} (hN : X.N.Nodup) (hi : X.N[i]? = some x) (hx : Loc X.env.scope x) (hs : swapsWith (.Dict [] [] pos) (some (.Name x pos')) spos.line X.env = pure false := by rfl) (hf : X.fn x = true ∨ X.env.scope.names.lookup x = some .local := by first | exact .inl rfl | exact .inr rfl | assumption) :
    PS X (.Assign [.Name x pos'] (.Dict [] [] pos) spos) (lS X F E (dNewK i)) := (ps_set hN hi hx pe_dnewK hs hf).imp fun D σ H ⟨ρ, G, B, E0, h, e⟩ => fun p np => by
  refine e.nx _ h _ _ G ((E0.new np).setS ⟨p, [], rfl, E0.gnone np, E0.h0none np, upd_same, rfl, .nil⟩ fun a' _ q j t _ e w => ?_) (Same.refl G)
  cases q
  exact E0.notOwn np j t e w
/-- d[k] = e -/
def dPutK (j : Nat) (ti te : DW D) : DS := fun B ρ => te ρ (fun d => ∃ ks ds, ρ[j]? = some (.ok ks ds) ∧ ti ρ (fun q => ∃ k, keyD q = some k ∧ ks.length < sizeLine ∧ B.nx (ρ.set j (.ok (kput ks k) (dput ks ds k d)))) (B.ex ρ)) (B.ex ρ)
theorem s_putK (j : Nat) {i : Expr} {ti te : DW D} (hu : X.A.units + 64 < cLine) (hi : PE X i (lE X F E ti)) (he : PE X e (lE X F E te)) (hN : X.N[j]? = some x := by rfl) (hv : Vis X.env.scope x := by first | exact Or.inl rfl | exact Or.inr (Or.inl rfl) | exact Or.inr (Or.inr rfl)) (hd : (x == ("__debug__" : Str)) = false := by decide)
    (hcd : (x == ("__classdict__" : Str)) = false := by decide) (hs : swapsWith e (some (.Subscript (.Name x p2) i pos)) spos.line X.env = pure false := by rfl) :
    PS X (.Assign [.Subscript (.Name x p2) i pos] e spos) (lS X F E (dPutK j ti te)) :=
  (ps_dput (by omega) (pe_var hN hv hd hcd) hi he hs).imp fun D σ H ⟨ρ, G, B, E0, h, e⟩ =>
    ⟨ρ, G, _, _, E0, h, fun d hd v H1 G1 E1 s1 k1 r => by
      obtain ⟨ks, ds, hj, hd⟩ := hd
      obtain ⟨a, vs0, hx, _⟩ := E1.slot j _ hj
      refine ⟨_, hx, ρ, G1, _, _, E1, hd, fun d2 hd2 v2 H2 G2 E2 s2 k2 r2 => ?_, (e.ex ρ σ).mono s1⟩
      obtain ⟨k, hk, hlen, hn⟩ := hd2
      cases r2.key hk
      obtain ⟨a', vs, hx', ga, h0, ha, hz, rs⟩ := E2.slot j _ hj
      rw [hx] at hx'
      cases hx'
      obtain ⟨e1, e2⟩ := putK_zip ks vs k v hz
      refine ⟨a, _, rfl, DPut.k ha (by rw [List.length_zip]; omega), ?_⟩
      rw [e1]
      exact e.nx _ hn σ _ G2 (E2.write hj rfl (by simp) hx ⟨a, _, rfl, ga, h0, upd_same, e2, rs.dput (r.mono s2)⟩) (s1.trans s2), e.ex ρ σ⟩

/-! ### list(range(..)), tuple(range(..)) -/
theorem rg_rps {K : PySem.W.Frag} {G : Hp} (a b : Int) : Rps K G (rgD a b) (rgV a b) := by
  unfold rgD rgV
  generalize List.range (b - a).toNat = l
  induction l with
  | nil => exact .nil
  | cons i l ih => exact .cons (.int _) ih
def dLR (it : DW (List D)) : DW D := fun ρ R Z => it ρ (fun ds => R (.lst ds)) Z
def dTR (it : DW (List D)) : DW D := fun ρ R Z => it ρ (fun ds => R (.tup ds)) Z
theorem e_listRg1 (hc : X.calm = true) (g1 : Gl X "list") (m1 : X.mg "list" = none) (g2 : Gl X "range") (m2 : X.mg "range" = none) (ha : PE X a (lE X F E ta))
    (hs : starEach [a] X.env = (false, eval a X.env) :: starEach [] X.env := by rfl) (hs2 : starEach [.Call (.Name "range" p2) [a] [] pos2] X.env = (false, eval (.Call (.Name "range" p2) [a] [] pos2) X.env) :: starEach [] X.env := by rfl) :
    PE X (.Call (.Name "list" p) [.Call (.Name "range" p2) [a] [] pos2] [] pos) (lE X F E (dLR (dRg1 ta))) :=
  (pe_listRg hc g1 m1 (prg_1 g2 m2 ha hs) hs2).imp fun σ H Q ⟨ρ, G, R, Z, E0, h, k, z⟩ => by
    refine ⟨ρ, G, _, Z, E0, h, fun d hd v H1 G1 E1 s1 k1 r => ?_, z⟩
    obtain ⟨n, rfl, hn, hn2, hr⟩ := hd
    cases r
    refine ⟨n, rfl, ⟨by omega, by omega, by omega, by omega, by omega⟩, fun q nq => ?_⟩
    have sn := same_new (o := .lst (rgV 0 n)) (E1.gnone nq)
    exact k _ hr _ _ _ (E1.frz nq) (s1.trans sn) (k1.trans (.frz nq)) (.lst upd_same (by rw [rgV_length, sizeLine_eq]; omega) (rg_rps 0 n))
theorem e_listRg2 (hc : X.calm = true) (g1 : Gl X "list") (m1 : X.mg "list" = none) (g2 : Gl X "range") (m2 : X.mg "range" = none) (ha : PE X a (lE X F E ta)) (hb : PE X b (lE X F E tb))
    (hs : starEach [a, b] X.env = (false, eval a X.env) :: starEach [b] X.env := by rfl) (hs3 : starEach [b] X.env = (false, eval b X.env) :: starEach [] X.env := by rfl) (hp3 : (backTo pos2 (starEach [b] X.env)).any (·.1) = false := by rfl)
    (hs2 : starEach [.Call (.Name "range" p2) [a, b] [] pos2] X.env = (false, eval (.Call (.Name "range" p2) [a, b] [] pos2) X.env) :: starEach [] X.env := by rfl) :
    PE X (.Call (.Name "list" p) [.Call (.Name "range" p2) [a, b] [] pos2] [] pos) (lE X F E (dLR (dRg2 ta tb))) :=
  (pe_listRg hc g1 m1 (prg_2 g2 m2 ha hb hs hs3 hp3) hs2).imp fun σ H Q ⟨ρ, G, R, Z, E0, h, k, z⟩ => by
    refine ⟨ρ, G, _, Z, E0, h, fun d hd v H1 G1 E1 s1 k1 r => ?_, z⟩
    refine ⟨ρ, G1, _, Z, E1, hd, fun d2 hd2 v2 H2 G2 E2 s2 k2 r2 => ?_, z.mono s1⟩
    obtain ⟨a, b, rfl, rfl, hb, hr⟩ := hd2
    cases r
    cases r2
    obtain ⟨b1, b2, b3, b4, b5⟩ := hb
    refine ⟨a, b, rfl, rfl, ⟨by omega, by omega, by omega, by omega, by omega⟩, fun q nq => ?_⟩
    have sn := same_new (o := .lst (rgV a b)) (E2.gnone nq)
    exact k _ hr _ _ _ (E2.frz nq) ((s1.trans s2).trans sn) ((k1.trans k2).trans (.frz nq)) (.lst upd_same (by rw [rgV_length, sizeLine_eq]; omega) (rg_rps a b))

/-! ### t.count(x) -/
def rCntD (K : PySem.W.Frag) (tup : Bool) : V → List V → Hp → VK → Prop := fun x xs H Q => ∃ (a : Addr) (vs : List V) (y : V) (ds : List D) (d : D) (G : Hp), x = .ref a ∧ xs = [y] ∧ (if tup = true then SqT K H a vs else SqL K H a vs) ∧ Same G H ∧ Rps K G ds vs ∧ Rp K G d y ∧
  (∀ d ∈ ds, okD d = true) ∧ okD d = true ∧ PyData.plainAll (ds.map pyD) = true ∧ (pyD d).plain = true ∧ (pyD d).depth ≤ 60 ∧ Q (.int ((ds.countP fun y => eqvD y d : Nat) : Int)) H
theorem countP_map (d : D) (ds : List D) : (ds.map pyD).countP (fun y => PyData.eqv y (pyD d)) = ds.countP fun y => eqvD y d := by
  rw [List.countP_map]
  rfl
theorem mt_countT (hu : X.A.units + 64 < cLine) : MtR X "tuple.count" (rCntD X.K true) := by
  intro pins s σ H x xs v us Q I rx rxs h
  obtain ⟨a, vs, y, ds, d, G, rfl, rfl, hs, sm, rs, rd, ok, okd, pl, pd, dp, q⟩ := h
  cases rx
  obtain ⟨u, rfl, ru⟩ := Vals.one rxs
  rw [if_pos rfl] at hs
  obtain ⟨its, rv, pt, _⟩ := I.tuple hs
  obtain ⟨as, ra⟩ := each_readsAll I sm rv rs ok
  obtain ⟨bs, rb⟩ := Dp.reads I _ _ _ (rd.dp sm _ (lay_ok okd)) ru
  refine SeqAt.count_tuple_data (vs := its.toArray) pt (by simpa using ra) rb pl pd (by have := Nat.min_le_right (PyData.depthAll (ds.map pyD)) (pyD d).depth; omega) ?_
  rw [countP_map]
  exact ⟨.int _, H, I.tok _, ⟨_, rfl⟩, q⟩
theorem mt_countL (hu : X.A.units + 64 < cLine) : MtR X "list.count" (rCntD X.K false) := by
  intro pins s σ H x xs v us Q I rx rxs h
  obtain ⟨a, vs, y, ds, d, G, rfl, rfl, hs, sm, rs, rd, ok, okd, pl, pd, dp, q⟩ := h
  cases rx
  obtain ⟨u, rfl, ru⟩ := Vals.one rxs
  rw [if_neg Bool.false_ne_true] at hs
  obtain ⟨its, rv, pt, _⟩ := I.list hs
  obtain ⟨as, ra⟩ := each_readsAll I sm rv rs ok
  obtain ⟨bs, rb⟩ := Dp.reads I _ _ _ (rd.dp sm _ (lay_ok okd)) ru
  refine SeqAt.count_list_data (vs := its.toArray) pt.isList (by simpa using ra) rb pl pd (by have := Nat.min_le_right (PyData.depthAll (ds.map pyD)) (pyD d).depth; omega) ?_
  rw [countP_map]
  exact ⟨.int _, H, I.tok _, ⟨_, rfl⟩, q⟩
/-- a method of a tuple or a list -/
def tBMQ (K : PySem.W.Frag) (rT rL : V → List V → Hp → VK → Prop) (to : TE) (t : TA) : TE := fun σ H Q => to σ H fun x H1 =>
  ((∃ a xs G, x = .ref a ∧ Same G H1 ∧ TqT K G a xs) ∧ t σ H1 fun ys H2 => rT x ys H2 Q) ∨ ((∃ a xs, x = .ref a ∧ H1 a = some (.lst xs)) ∧ t σ H1 fun ys H2 => rL x ys H2 Q)
theorem pe_bmQ {idT idL : String} {name : Str} {apos cpos : Pos} {to : TE} {t : TA} {rT rL : V → List V → Hp → VK → Prop} (slotT : Slot "tuple" name idT) (slotL : Slot "list" name idL) (tyT : typeOf (.builtin idT) = pure (.type "method_descriptor")) (tyL : typeOf (.builtin idL) = pure (.type "method_descriptor"))
    (hmT : MtR X idT rT) (hmL : MtR X idL rL) (ho : PE X o to) (ha : PA X (e :: es) t)
    (hbase : attributeBase o name X.env (eval o X.env) = eval o X.env := by rfl)
    (hfew : ((backTo cpos (starEach (e :: es) X.env)).all (fun x => !x.1) && (backToKw cpos (keywordEach [] X.env)).all (fun x => x.1.isSome)
      && decide ((e :: es).length + ([] : List Keyword).length + (if ([] : List Keyword).isEmpty then 0 else 1) < 30)) = true := by rfl)
    (hline : (apos.endLine == cpos.line) = true := by rfl) (hs : starEach (e :: es) X.env = (false, eval e X.env) :: starEach es X.env := by rfl) (hplain : (backTo cpos (starEach es X.env)).any (·.1) = false := by rfl) :
    PE X (.Call (.Attribute o name apos) (e :: es) [] cpos) (tBMQ X.K rT rL to t) := by
  refine ⟨fun pins s σ H Q I h => ?_⟩
  refine wpAny_Call_method_late hbase hfew hline rfl (thn (ho.run pins s σ H _ I h) fun v s1 ⟨x, H1, I1, r1, q1⟩ => ?_)
  rcases q1 with ⟨⟨a, xs, G, rfl, sm, hx⟩, q1⟩ | ⟨⟨a, xs, rfl, hx⟩, q1⟩
  · cases r1
    obtain ⟨h1, h2⟩ := TqT.is I1 (hx.mono sm)
    refine ⟨"tuple", idT, PySem.F.plainAttrs_tuple, slotT, tyT, h1, h2, ?_⟩
    have hA := ha.run cpos pins s1 σ H1 _ I1 q1
    rw [hs] at hA ⊢
    refine Calls.callWith_builtin (by show (false || (backTo cpos (starEach es X.env)).any (·.1)) = false; rw [hplain] <;> rfl) (Calls.evalArgs_plain ?_)
    exact thn hA fun us s2 ⟨vs, H2, I2, r2, q2⟩ => hmT pins s2 σ H2 (.ref a) vs _ us Q I2 rfl r2 q2
  · cases r1
    obtain ⟨_, its, n, rv, e⟩ := I1.hok a _ hx
    refine ⟨"list", idL, PySem.F.plainAttrs_list, slotL, tyL, ⟨_, e, rfl⟩, fun b q => by cases q; exact ⟨_, e, rfl⟩, ?_⟩
    have hA := ha.run cpos pins s1 σ H1 _ I1 q1
    rw [hs] at hA ⊢
    refine Calls.callWith_builtin (by show (false || (backTo cpos (starEach es X.env)).any (·.1)) = false; rw [hplain] <;> rfl) (Calls.evalArgs_plain ?_)
    exact thn hA fun us s2 ⟨vs, H2, I2, r2, q2⟩ => hmL pins s2 σ H2 (.ref a) vs _ us Q I2 rfl r2 q2
theorem e_count {apos cpos : Pos} (hu : X.A.units + 64 < cLine) (ho : PE X o (lE X F E ta)) (he : PE X e (lE X F E tb))
    (hbase : attributeBase o "count" X.env (eval o X.env) = eval o X.env := by rfl)
    (hfew : ((backTo cpos (starEach [e] X.env)).all (fun x => !x.1) && (backToKw cpos (keywordEach [] X.env)).all (fun x => x.1.isSome)
      && decide ([e].length + ([] : List Keyword).length + (if ([] : List Keyword).isEmpty then 0 else 1) < 30)) = true := by rfl)
    (hline : (apos.endLine == cpos.line) = true := by rfl) (hs : starEach [e] X.env = (false, eval e X.env) :: starEach [] X.env := by rfl) (hplain : (backTo cpos (starEach [] X.env)).any (·.1) = false := by rfl) :
    PE X (.Call (.Attribute o "count" apos) [e] [] cpos) (lE X F E (dCount ta tb)) :=
  (pe_bmQ PySem.F.slot_tuple_count PySem.F.slot_list_count PySem.F.type_tuple_count PySem.F.type_list_count (mt_countT hu) (mt_countL hu) ho (pa_cons he pa_nil hs) hbase hfew hline hs hplain).imp fun σ H Q ⟨ρ, G, R, Z, E0, h, k, z⟩ => by
    refine ⟨ρ, G, _, Z, E0, h, fun d hd v H1 G1 E1 s1 k1 r => ?_, z⟩
    obtain ⟨ds, hi, ht⟩ := hd
    cases r with
    | tup hx hz rs =>
      cases hi
      refine .inl ⟨⟨_, _, G1, rfl, E1.sub, hx⟩, ρ, G1, _, Z, E1, ht, fun d2 hd2 v2 H2 G2 E2 s2 k2 r2 => ?_, z.mono s1⟩
      obtain ⟨ok, pl, okd, pd, dp, hR⟩ := hd2
      exact ⟨_, _, v2, ds, d2, G2, rfl, rfl, by rw [if_pos rfl]; exact Same.seqT E2.sub (hx.mono s2), E2.sub, rs.mono s2, r2, ok, okd, pl, pd, dp, k _ hR _ _ _ E2 (s1.trans s2) (k1.trans k2) (.int _)⟩
    | lst hx hz rs =>
      cases hi
      refine .inr ⟨⟨_, _, rfl, E1.sub _ _ hx⟩, ρ, G1, _, Z, E1, ht, fun d2 hd2 v2 H2 G2 E2 s2 k2 r2 => ?_, z.mono s1⟩
      obtain ⟨ok, pl, okd, pd, dp, hR⟩ := hd2
      exact ⟨_, _, v2, ds, d2, G2, rfl, rfl, by rw [if_neg Bool.false_ne_true]; exact .inl (.inl (E2.sub _ _ (s2 _ _ hx))), E2.sub, rs.mono s2, r2, ok, okd, pl, pd, dp, k _ hR _ _ _ E2 (s1.trans s2) (k1.trans k2) (.int _)⟩
    | _ => cases hi
end
end DL
namespace DL
open PySem PySem.Spec PyProof.Rows L2
/-! ### what stands about a context -/
structure Bd (X : Cx) (E : EX) (k : Nat) : Prop where
  room : Room k X.A
  calm : X.calm = true
  pass : ∀ σ, PassesAt (L2.CX X.prog X.w) X σ (E σ)
structure Bs (X : Cx) (E : EX) (k : Nat) : Prop extends Bd X E k where
  take : Takes X (fun cls d σ H => E σ cls d H)
  own : PassesOwn (model X.prog X.w) X.A X.env X.xe
theorem Bd.u {X : Cx} {E : EX} {k : Nat} (b : Bd X E k) : X.A.units + 64 < cLine := b.room.units
theorem Bd.u1 {X : Cx} {E : EX} {k : Nat} (b : Bd X E k) : X.A.units + 65 < cLine := by have := b.room.un; omega
theorem Bd.u0 {X : Cx} {E : EX} {k : Nat} (b : Bd X E k) : X.A.units < cLine := b.room.units0
theorem Bd.blk {X : Cx} {E : EX} {k : Nat} (b : Bd X E k) {s : Shared} {H : Hp} {scope : Scope} {env : Env} {fp : List Addr} : Bd (X.blk s H scope env fp) E00 k :=
  ⟨b.room, b.calm, fun σ => passAt (X := X.blk s H scope env fp) (W := fun _ _ _ _ => False) (fun u s' ⟨_, _, _, _, _, _, _, _, _, _, _, _, _, _, _, _, w⟩ => w.elim) σ⟩
/-! ### defs that are called -/
def Has (P : Program) (w : World) (K : PySem.W.Frag) (mg : Str → Option Value) (base : Heap) (k : Nat) (x : Str) (ps : List Str) (cu : Bool) (φ : Φ) : Prop :=
  ∃ f fd, FnD P w K mg base k f fd ps cu φ ∧ mg x = some (.ref f) ∧ PySem.W.keepIn K (.ref f) = true ∧ Binds K fd ps [] ∧ ∀ ds R Z, φ ds R Z → nV cu ds = ps.length
section
variable {X : Cx} {F : Fx} {E : EX} {a b c e : Expr} {es : List Expr} {ta tb tc : DW D} {ts : DW (List D)} {tl : DW (List D)} {tA : DW Bool} {p p2 pos spos : Pos} {x y : Str} {k j : Nat} {ps : List Str} {φ : Φ}
theorem e_h (h : Has X.prog X.w X.K X.mg X.base k x ps false φ) (bd : Bd X E j) (hk : k ≤ j) (hg : Gl X x) (ha : PA X (e :: es) (lA X F E ts)) (hdb : (x == ("__debug__" : Str)) = false := by decide)
    (he : starEach (e :: es) X.env = (false, eval e X.env) :: starEach es X.env := by rfl) (hpl : (backTo pos (starEach es X.env)).any (·.1) = false := by rfl) :
    PE X (.Call (.Name x p) (e :: es) [] pos) (lE X F E (dCall φ ts)) := by
  obtain ⟨f, fd, G, hm, kp, hb, hlen⟩ := h
  refine (pe_callS G (bd.room.mono hk) hg hm kp hb bd.pass ha hdb he hpl).imp fun σ H Q ⟨ρ, G0, R, Z, E0, h, kk, z⟩ => ?_
  refine ⟨ρ, G0, _, Z, E0, h, fun ds hds vs H1 G1 E1 s1 k1 rs => ?_, z⟩
  have none_ : ∀ a, (none : Option Addr) = some a → ∃ i : Nat, ρ[i]? = some S.cup ∧ σ[i]? = some (some (V.ref a)) := fun _ h => by cases h
  refine ⟨⟨H1, G1, none⟩, ds, _, _, rfl, E1.entry, ⟨rfl, rs⟩, hlen _ _ _ hds, hds, fun d hd v H2 G2 E2 r => ?_, fun c a hc hm H2 G2 E2 => ?_⟩
  · exact kk d hd v H2 G2 (E1.after none_ E2) (s1.trans E2.g0) (k1.trans (keep_call none_ E2)) r
  · exact z c a hc hm H2 G2 (E1.after none_ E2) (s1.trans E2.g0)
theorem e_hC (i : Nat) (h : Has X.prog X.w X.K X.mg X.base k x ps true φ) (bd : Bd X E j) (hk : k ≤ j) (hg : Gl X x) (ha : PA X es (lA X F E ts)) (hN : X.N[i]? = some y := by rfl) (hv : Vis X.env.scope y := by first | exact Or.inl rfl | exact Or.inr (Or.inl rfl) | exact Or.inr (Or.inr rfl)) (hd : (y == ("__debug__" : Str)) = false := by decide)
    (hcd : (y == ("__classdict__" : Str)) = false := by decide) (hdb : (x == ("__debug__" : Str)) = false := by decide) (he : starEach (.Name y p2 :: es) X.env = (false, eval (.Name y p2) X.env) :: starEach es X.env := by rfl) (hpl : (backTo pos (starEach es X.env)).any (·.1) = false := by rfl) :
    PE X (.Call (.Name x p) (.Name y p2 :: es) [] pos) (lE X F E (dCallC i φ ts)) := by
  obtain ⟨f, fd, G, hm, kp, hb, hlen⟩ := h
  refine (pe_callS G (bd.room.mono hk) hg hm kp hb bd.pass (pa_cons (pe_var hN hv hd hcd) ha he) hdb he hpl).imp fun σ H Q ⟨ρ, G0, R, Z, E0, ⟨hi, h⟩, kk, z⟩ => ?_
  obtain ⟨a, hxa, ga, h0, hc⟩ := E0.slot i _ hi
  refine ⟨_, hxa, ρ, G0, _, Z, E0, h, fun ds hds vs H1 G1 E1 s1 k1 rs => ?_, z⟩
  obtain ⟨a', hxa', ga1, h01, hc1⟩ := E1.slot i _ hi
  rw [hxa] at hxa'
  cases hxa'
  have cup_ : ∀ b, some a = some b → ∃ j : Nat, ρ[j]? = some S.cup ∧ σ[j]? = some (some (V.ref b)) := fun b q => by cases q; exact ⟨i, hi, hxa⟩
  refine ⟨⟨H1, G1, some a⟩, ds, _, _, rfl, E1.entryC hc1, ⟨a, vs, rfl, rfl, ga1, rs⟩, hlen _ _ _ hds, hds, fun d hd v H2 G2 E2 r => ?_, fun c b hcc hm H2 G2 E2 => ?_⟩
  · exact kk d hd v H2 G2 (E1.after cup_ E2) (s1.trans E2.g0) (k1.trans (keep_call cup_ E2)) r
  · exact z c b hcc hm H2 G2 (E1.after cup_ E2) (s1.trans E2.g0)
/-! ### try -/
/-- cs: the classes that the clause catches -/
def dTry (cs : List Str) (t u : DS) : DS := fun B ρ => t { B with ex := fun ρ' z => z ∈ cs ∧ u { B with ex := fun _ _ => False } ρ' } ρ
theorem s_try {body suite : List Stmt} {b₀ : Stmt} {np pos' : Pos} {cs : List Str} {t u : DS} {cv : Value} (bs : Bs X E k) (hs : X.stack = X.env :: X.outer) (hf : X.env.frame = some X.env.locals) (hc : Names X x cv)
    (hcs : ∀ z ∈ cs, ∀ a, X.mg z = some (.ref a) → PySem.W.exmOne X.K (.ref a) cv = some true)
    (hb : ∀ (pn : List (Addr × Obj)) (xe : Value → Shared → Prop) (E' : EX), Bs (X.tr pn xe) E' k → PSs (X.tr pn xe) body (lS (X.tr pn xe) F E' t))
    (hsu : ∀ (a : Addr) (oe : Obj) (pn : List (Addr × Obj)), PSs (X.suite a ((a, oe) :: pn)) (b₀ :: suite) (lS (X.suite a ((a, oe) :: pn)) F E00 u)) :
    PS X (.Try body [.ExceptHandler (some (.Name x np)) none (b₀ :: suite) pos'] [] [] pos) (lS X F E (dTry cs t u)) := by
  refine (ps_try_only (tb := fun W => lS X F (fun σ cls d H => W cls d σ H) t) (ts := fun _ _ _ => lS X F E00 u) hs hf hc bs.take (fun W pn xe tk po => ?_) (fun a oe cls d pn _ _ => (hsu a oe pn).imp fun D σ H ⟨ρ, G, B, E0, h, e⟩ => ⟨ρ, G, B, E0, h, e.nx, e.rt, e.bk, e.ct, e.ex⟩)).imp fun D σ H ⟨ρ, G, B, E0, h, e⟩ => ?_
  · have q := hb pn xe (fun σ cls d H => W cls d σ H) ⟨⟨bs.room, bs.calm, fun σ => passAt (X := X.tr pn xe) (W := W) tk σ⟩, tk, po⟩
    exact q.imp fun D σ H ⟨ρ, G, B, E0, h, e⟩ => ⟨ρ, G, B, E0, h, e.nx, e.rt, e.bk, e.ct, e.ex⟩
  · refine ⟨ρ, G, _, E0, h, e.nx, e.rt, e.bk, e.ct, fun ρ' σ' c a hz hm H' G' E' s' => ?_⟩
    obtain ⟨hz1, hz2⟩ := hz
    refine ⟨true, hcs c hz1 a hm, fun _ a' _ => ⟨ρ', G', _, E', hz2, (e.mono s').nx, e.rt, (e.mono s').bk, (e.mono s').ct, fun _ _ _ _ w => w.elim⟩, fun q => by cases q⟩
/-! ### builtins by name, all forms -/
abbrev rMaxAll (K : PySem.W.Frag) : List V → Hp → VK → Prop := fun xs H Q => rMaxD K dMax xs H Q ∨ ∃ i j, xs = [.int i, .int j] ∧ Q (.int (if j > i then j else i)) H
theorem cd_dlen : CallD X F (fun xs H Q => ∃ x n, xs = [x] ∧ LenV X.K x H n ∧ Q (.int n) H) gLen := cd_len
theorem cl_len : CallL X F (fun xs H Q => ∃ x n, xs = [x] ∧ LenV X.K x H n ∧ Q (.int n) H) (fun ds R => R (.int ds.length)) := by
  intro ρ σ H G a ds vs R Q E0 ha hz rs h k
  exact ⟨_, _, rfl, .inl ⟨_, .inl (.inl ha), rs.length⟩, k _ h _ H G E0 (Same.refl G) .rfl (.int _)⟩
theorem cl_sum (hc : X.calm = true) : CallL X F (rSumA X.K) (fun ds R => ∃ ns, unInts ds = some ns ∧ R (.int ns.sum)) := by
  intro ρ σ H G a ds vs R Q E0 ha hz rs h k
  obtain ⟨ns, e, q⟩ := h
  cases unInts_of e
  cases rs.ints
  exact ⟨_, ns, rfl, .inl (.inl (.inl ha)), k _ q _ H G E0 (Same.refl G) .rfl (.int _)⟩
end
/-! ### a def -/
section
variable {P : Program} {w : World} {K : PySem.W.Frag} {mg : Str → Option Value} {base : Heap} {x qual : Str} {st : Stmt} {f : Addr} {fd : FuncData} {N ps : List Str} {k : Nat} {φ : Φ}
theorem bs_cx {qual : Str} {scope : Scope} {f : Addr} {cd : Value} {A : Around} {outer : List Env} {s : Shared} {H : Hp} {E : XK} (hr : Room k (A.deeper (envOfC qual scope s.heap.objs.size f cd))) : Bs (cxD P w K mg base N qual scope f cd A outer s H E) (fun _ => E) k :=
  have tk : Takes (cxD P w K mg base N qual scope f cd A outer s H E) (fun cls d σ H => (fun _ => E : EX) σ cls d H) := takes_of rfl rfl rfl rfl
  ⟨⟨hr, rfl, fun σ => passAt tk σ⟩, tk, passes_of rfl⟩
theorem D_has {params : Arguments} {body : List Stmt} {scope : Scope} {cu : Bool} {t : DS} (hm : mg x = some (.ref f)) (Fd : FunD K x qual params body scope [] [] f fd) (sc : FnScope N ps scope)
    (hbind : ∀ (kV doc pm : Value) (an : Option Addr) (cdv ct : Value) (us : List Value), us.length = ps.length → bindArgs (PySem.W.fnOf x qual params body scope .none kV doc pm an cdv ct) ⟨us, []⟩ = pure (ps.zip us))
    (hbody : ∀ (cd : Value) (A : Around) (outer : List Env) (s : Shared) (H : Hp) (E : XK) (F : Fx), Bs (cxD P w K mg base N qual scope f cd A outer s H E) (fun _ => E) k →
      PSs (cxD P w K mg base N qual scope f cd A outer s H E) body (lS (cxD P w K mg base N qual scope f cd A outer s H E) F (fun _ => E) t))
    (len : ∀ ds R Z, φ ds R Z → nV cu ds = ps.length)
    (pure : ∀ ds R Z, φ ds R Z → t (ends R Z) (start' N.length cu ds)) : Has P w K mg base (k + 1) x ps cu φ :=
  ⟨f, fd, D_ok Fd sc (fun cd A outer s H E F B => hbody cd A outer s H E F (bs_cx B.room)) (fun ds R Z _ h => pure ds R Z h), hm, Fd.kp, Fd.bindsN hbind, len⟩
/-! ### the cup's own def, and the law -/
def spCup (K : PySem.W.Frag) : Sp := fun vs H Q _ => ∃ (a : Addr) (ns : List Int), vs = [.ref a] ∧ SqL K H a (ns.map V.int) ∧ ns.length ≤ 63 ∧ ∀ H' c x y, Same H H' → H c = none → H' c = some (.lst [.int x, .int y]) → CupOk x y → Q (.ref c) H'
end
end DL
namespace DL
open PySem PySem.Spec PyProof.Rows L2
theorem EnvOk.grow {K : PySem.W.Frag} {F : Fx} {ρ : List S} {σ : St} {H H' G : Hp} (E : EnvOk K F ρ σ H G) (s : Same H H') : EnvOk K F ρ σ H' G where
  len := E.len
  sub := fun b u e => s b u (E.sub b u e)
  g0 := E.g0
  gf := E.gf
  keep := fun b u e n => s b u (E.keep b u e n)
  cupk := fun a e => by
    obtain ⟨x, y, h, c⟩ := E.cupk a e
    exact ⟨x, y, s _ _ h, c⟩
  cup0 := E.cup0
  slot := fun i t e => (E.slot i t e).move (Same.refl G) fun a u _ x g h => ⟨g, fun _ => s _ _ h, fun ec => by
    subst ec
    obtain ⟨a', h1, _, _, x', y', h2, c⟩ := E.slot i _ e
    rw [x] at h1
    cases h1
    exact ⟨x', y', s _ _ h2, c⟩⟩
  dis := E.dis
theorem sqL_keep {K : PySem.W.Frag} {F : Fx} {ρ : List S} {σ : St} {H G : Hp} {a : Addr} {xs : List V} (E : EnvOk K F ρ σ H G) (hF : F.cup = none) (h : SqL K F.H0 a xs) : SqL K H a xs := by
  have n : F.cup ≠ some a := by rw [hF]; simp
  rcases h with (h | ⟨o, h⟩) | h
  · exact .inl (.inl (E.keep _ _ h n))
  · exact .inl (.inr ⟨o, E.keep _ _ h n⟩)
  · exact .inr h
section
variable {X : Cx} {F : Fx} {E : EX} {a b c e : Expr} {es : List Expr} {ta tb tc : DW D} {p p2 pos spos : Pos} {x y : Str} {k j : Nat} {A : Addr} {ns : List Int}
/-- list(script) -/
def dScript (i : Nat) (A : Addr) (ns : List Int) : DW D := fun ρ R _ => ρ[i]? = some (.im (.ref A)) ∧ R (.lst (ns.map .int))
theorem e_script (i : Nat) (hF : F.cup = none) (hS : SqL X.K F.H0 A (ns.map V.int)) (hl : ns.length ≤ 63) (hg : Gl X "list") (hm : X.mg "list" = none) (hN : X.N[i]? = some x := by rfl) (hv : Vis X.env.scope x := by first | exact Or.inl rfl | exact Or.inr (Or.inl rfl) | exact Or.inr (Or.inr rfl)) (hd : (x == ("__debug__" : Str)) = false := by decide)
    (hcd : (x == ("__classdict__" : Str)) = false := by decide) (hs : starEach [.Name x p2] X.env = (false, eval (.Name x p2) X.env) :: starEach [] X.env := by rfl) (hpl : (backTo pos (starEach [] X.env)).any (·.1) = false := by rfl) :
    PE X (.Call (.Name "list" p) [.Name x p2] [] pos) (lE X F E (dScript i A ns)) :=
  (pe_callTy call_list_of hg hm PyProof.Rows.boot_list (pa_cons (pe_var hN hv hd hcd) pa_nil hs) (by decide) (by decide) hs hpl).imp fun σ H Q ⟨ρ, G, R, Z, E0, ⟨hi, h⟩, k, z⟩ => by
    obtain ⟨v, e1, r⟩ := E0.slot i _ hi
    cases r
    refine ⟨_, e1, A, _, rfl, .inl (sqL_keep E0 hF hS), fun p np => ?_⟩
    exact k _ h _ _ _ (E0.frz np) (same_new (E0.gnone np)) (.frz np) (.lst upd_same (by rw [List.length_map, sizeLine_eq]; omega) (Rps.of_ints _))
def HasCup (P : Program) (w : World) (K : PySem.W.Frag) (mg : Str → Option Value) (base : Heap) (k : Nat) (x : Str) : Prop :=
  ∃ f fd, FnOk P w K mg base (L2.CX P w) k f fd ["script"] (spCup K) ∧ mg x = some (.ref f) ∧ PySem.W.keepIn K (.ref f) = true ∧ Binds K fd ["script"] []
/-- cup = _law_cup(script) -/
def dCup0 (i m : Nat) (A : Addr) : DS := fun B ρ => ρ[m]? = some (.im (.ref A)) ∧ B.nx (ρ.set i .cup)
theorem s_cup0 (i m : Nat) {z : Str} {pz px : Pos} (h : HasCup X.prog X.w X.K X.mg X.base k z) (bs : Bs X E j) (hk : k ≤ j) (hF : F.cup = none) (hS : SqL X.K F.H0 A (ns.map V.int)) (hl : ns.length ≤ 63) (hg : Gl X z) (hN : X.N.Nodup) (hi : X.N[i]? = some x) (hx : Loc X.env.scope x)
    (hm : X.N[m]? = some y := by rfl) (hv : Vis X.env.scope y := by first | exact Or.inl rfl | exact Or.inr (Or.inl rfl) | exact Or.inr (Or.inr rfl)) (hd : (y == ("__debug__" : Str)) = false := by decide)
    (hcd : (y == ("__classdict__" : Str)) = false := by decide) (hdb : (z == ("__debug__" : Str)) = false := by decide) (he : starEach [.Name y p2] X.env = (false, eval (.Name y p2) X.env) :: starEach [] X.env := by rfl) (hpl : (backTo pos (starEach [] X.env)).any (·.1) = false := by rfl)
    (hs : swapsWith (.Call (.Name z pz) [.Name y p2] [] pos) (some (.Name x px)) spos.line X.env = pure false := by rfl) (hf : X.fn x = true ∨ X.env.scope.names.lookup x = some .local := by first | exact .inl rfl | exact .inr rfl | assumption) :
    PS X (.Assign [.Name x px] (.Call (.Name z pz) [.Name y p2] [] pos) spos) (lS X F E (dCup0 i m A)) := by
  obtain ⟨f, fd, G, hmz, kp, hb⟩ := h
  refine (ps_set hN hi hx (pe_callS G (bs.room.mono hk) hg hmz kp hb bs.pass (pa_cons (pe_var hm hv hd hcd) pa_nil he) hdb he hpl) hs hf).imp fun D σ H ⟨ρ, G0, B, E0, ⟨h0, h⟩, e⟩ => ?_
  obtain ⟨v, e1, r⟩ := E0.slot m _ h0
  cases r
  refine ⟨_, e1, A, ns, rfl, sqL_keep E0 hF hS, hl, fun H' c x y sm np hc ok => ?_⟩
  have E1 := E0.grow sm
  refine e.nx _ h _ H' G0 (E1.setS ⟨c, rfl, E0.gnone np, .inl (E0.h0none np), x, y, hc, ok⟩ fun a' _ q j t _ e w => ?_) (Same.refl G0)
  cases q
  exact E0.notOwn np j t e w
end
/-! ### the law -/
section
variable {P : Program} {w : World} {K : PySem.W.Frag} {mg : Str → Option Value} {base : Heap} {x qual : Str} {f : Addr} {fd : FuncData} {N : List Str} {k : Nat}
def spLaw (K : PySem.W.Frag) : Sp := fun vs H Q _ => ∃ (a : Addr) (ns : List Int), vs = [.ref a] ∧ ns.length ≤ 63 ∧ SqL K H a (ns.map V.int) ∧ ∀ H', Q (.bl true) H'
def fx0 (H : Hp) : Fx := ⟨H, fun _ => none, none⟩
theorem env0 {H : Hp} : EnvOk K (fx0 H) [] [] H (fun _ => none) :=
  ⟨rfl, (fun b u e => by cases e), Same.refl _, (fun _ _ _ => rfl), (fun _ _ e _ => e), (fun a e => by cases e), (fun a e => by cases e), (fun i s e => by simp at e), (fun i j a s t _ e => by simp at e)⟩
theorem law_ok {params : Arguments} {body : List Stmt} {scope : Scope} {t : Addr → DS} (Fd : FunD K x qual params body scope [] [] f fd) (sc : FnScope N ["script"] scope)
    (hbody : ∀ (cd : Value) (A : Around) (outer : List Env) (s : Shared) (H : Hp) (E : XK) (F : Fx) (a : Addr) (ns : List Int), F.cup = none → SqL K F.H0 a (ns.map V.int) → ns.length ≤ 63 → Bs (cxD P w K mg base N qual scope f cd A outer s H E) (fun _ => E) k →
      PSs (cxD P w K mg base N qual scope f cd A outer s H E) body (lS (cxD P w K mg base N qual scope f cd A outer s H E) F (fun _ => E) (t a)))
    (pure : ∀ a, t a (ends (fun d => d = .bl true) (fun _ => False)) (start' N.length false [.ref a])) : FnOk P w K mg base (L2.CX P w) (k + 1) f fd ["script"] (spLaw K) := by
  refine Fd.ok sc (fun vs H Q E h => ?_) fun cd A outer s H vs Q E hr h => ?_
  · obtain ⟨a, ns, rfl, _⟩ := h
    rfl
  obtain ⟨a, ns, rfl, hl, hS, hQ⟩ := h
  refine ⟨_, hbody cd A outer s H E (fx0 H) a ns rfl hS hl (bs_cx hr), start' N.length false [.ref a], _, ends (fun d => d = .bl true) (fun _ => False), start_ok (K := K) (F := fx0 H) (cu := false) (vs := [.ref a]) (ds := [.ref a]) rfl env0 ⟨rfl, .cons (.ref a) .nil⟩ _ rfl, pure a, ?_⟩
  refine ⟨fun ρ h => (by cases h), fun d hd v H1 G1 E1 r => ?_, fun _ h => h.elim, fun _ h => h.elim, fun ρ σ c a hc => hc.elim⟩
  cases hd
  cases r
  exact hQ H1
theorem cup_ok {params : Arguments} {st : Stmt} {e : Expr} {pos : Pos} {scope : Scope} {t1 : Addr → List Int → DS} {t2 : DW (List D)} (hm : mg x = some (.ref f)) (Fd : FunD K x qual params [st, .Return (some e) pos] scope [] [] f fd) (sc : FnScope N ["script"] scope)
    (hbind : ∀ (kV doc pm : Value) (an : Option Addr) (cdv ct : Value) (us : List Value), us.length = ["script"].length → bindArgs (PySem.W.fnOf x qual params [st, .Return (some e) pos] scope .none kV doc pm an cdv ct) ⟨us, []⟩ = pure (List.zip (["script"] : List Str) us))
    (hbody : ∀ (cd : Value) (A : Around) (outer : List Env) (s : Shared) (H : Hp) (E : XK) (F : Fx) (a : Addr) (ns : List Int), F.cup = none → SqL K F.H0 a (ns.map V.int) → ns.length ≤ 63 → Bs (cxD P w K mg base N qual scope f cd A outer s H E) (fun _ => E) k →
      PS (cxD P w K mg base N qual scope f cd A outer s H E) st (lS (cxD P w K mg base N qual scope f cd A outer s H E) F (fun _ => E) (t1 a ns)) ∧
      PE (cxD P w K mg base N qual scope f cd A outer s H E) e (lF (cxD P w K mg base N qual scope f cd A outer s H E) F (fun _ => E) t2))
    (pure : ∀ a ns, ns.length ≤ 63 → t1 a ns ⟨fun ρ => t2 ρ (fun ds => ∃ x y, ds = [.int x, .int y] ∧ CupOk x y) (fun _ => False), fun _ => False, fun _ => False, fun _ => False, fun _ _ => False⟩ (start' N.length false [.ref a])) : HasCup P w K mg base (k + 1) x := by
  refine ⟨f, fd, Fd.ok sc (fun vs H Q E h => ?_) fun cd A outer s H vs Q E hr h => ?_, hm, Fd.kp, Fd.bindsN hbind⟩
  · obtain ⟨a, ns, rfl, _⟩ := h
    rfl
  obtain ⟨a, ns, rfl, hS, hl, hQ⟩ := h
  obtain ⟨h1, h2⟩ := hbody cd A outer s H E (fx0 H) a ns rfl hS hl (bs_cx hr)
  refine ⟨_, pss_cons h1 (pss_one (ps_ret h2)), start' N.length false [.ref a], _, _, start_ok (K := K) (F := fx0 H) (cu := false) (vs := [.ref a]) (ds := [.ref a]) rfl env0 ⟨rfl, .cons (.ref a) .nil⟩ _ rfl, pure a ns hl, ?_⟩
  refine ⟨fun ρ h σ H1 G1 E1 s1 => ?_, fun d hd => hd.elim, fun _ h => h.elim, fun _ h => h.elim, fun ρ σ c a hc => hc.elim⟩
  refine ⟨ρ, G1, _, _, E1, h, fun ds hds v H2 G2 E2 s2 k2 r => ?_, fun c a hc => hc.elim⟩
  obtain ⟨xx, yy, rfl, ok⟩ := hds
  obtain ⟨c, vs, rfl, _, gc, h0, hc, _, rs, _⟩ := r
  cases rs with
  | cons ra rb => cases rb with
    | cons rb rc =>
      cases rc
      cases ra
      cases rb
      have sH : Same H H2 := fun b o hb => E2.keep b o hb (by show (none : Option Addr) ≠ _; simp)
      exact hQ H2 c xx yy sH h0 hc ok
end
end DL
namespace DL
open PySem PySem.Spec PyProof.Rows L2
/-! ### errors -/
def HasExc (K : PySem.W.Frag) (mg : Str → Option Value) (c : Str) : Prop := mg c = some (.ref (He.ga K c)) ∧ PySem.W.excIn K (He.ga K c) He.veBase "ValueError.__new__" = true ∧ PySem.W.keepIn K (.ref (He.ga K c)) = true ∧ PySem.W.subIn K (.ref (He.ga K c)) (.type "BaseException") = some true ∧ PySem.W.typeIn K (.ref (He.ga K c)) = some (.type "type")
section
variable {X : Cx} {F : Fx} {E : EX} {k : Nat}
theorem s_raiseV {c m : Str} {j : Nat} {p p2 pos pos2 : Pos} (h : HasExc X.K X.mg c) (bs : Bs X E k) (hg : Gl X c) (hdb : (c == ("__debug__" : Str)) = false := by decide) :
    PS X (.Raise (some (.Call (.Name c p) [.Constant (.str m) j p2] [] pos)) none pos2) (lS X F E (dRaise c)) := by
  obtain ⟨h1, h2, h3, h4, h5⟩ := h
  exact s_raise bs.calm bs.take h1 (pmk_own PySem.F.excBase_ValueError h2 h1 h3 (raises_own h4 h5) hg hdb)
/-! ### comprehensions -/
def blkB (N : List Str) (sc scope : Scope) (own : List (Str × Nat)) : Bool :=
  decide (scope.kind = .function) && (scope.names.all fun y => decide (scope.names.lookup y.1 = some y.2)) && (own.all fun p => decide (N[p.2]? = some p.1)) &&
  (scope.names.all fun y => decide (y.2 ≠ .free) || (decide (sc.names.lookup y.1 = some .cell) || decide (sc.names.lookup y.1 = some .free))) &&
  (scope.names.all fun y => !(decide (y.2 = .local) || decide (y.2 = .cell)) || (decide (y.1 ∈ own.map (·.1)) || decide (y.1 ∉ N)))
theorem blk_ok {N : List Str} {sc scope : Scope} {own : List (Str × Nat)} (h : blkB N sc scope own = true) : BlkOk N sc scope own := by
  unfold blkB at h
  simp only [Bool.and_eq_true, List.all_eq_true, decide_eq_true_eq, Bool.or_eq_true, Bool.not_eq_true', Bool.or_eq_false_iff, decide_eq_false_iff_not] at h
  obtain ⟨⟨⟨⟨h1, h2⟩, h3⟩, h4⟩, h5⟩ := h
  refine ⟨h1, h2, h3, fun y hy e => ?_, fun y hy e => ?_⟩
  · rcases h4 y hy with q | q
    · exact absurd e q
    · exact q
  · rcases h5 y hy with q | q
    · rcases e with e | e
      · exact absurd e q.1
      · exact absurd e q.2
    · exact q
theorem _root_.L2.PTs.imp {X : Cx} {e : List Expr} {t t' : TT} (h : PTs X e t) (k : ∀ σ H Q, t' σ H Q → t σ H Q) : PTs X e t' := ⟨fun pins s σ H Q I q => h.run pins s σ H Q I (k _ _ _ q)⟩
theorem ts_nil : PTs X [] (lT X F E dYes) := pts_nil.imp fun σ H Q ⟨ρ, G, R, Z, E0, h, k, z⟩ => k _ h H G E0 (Same.refl G) .rfl
theorem ts_one {c : Expr} {t : DW Bool} (h : PT X c (lT X F E t)) : PTs X [c] (lT X F E t) := pts_one h
def dFz (t : DW (List D)) : DW D := fun ρ R Z => t ρ (fun ds => R (.lst ds)) Z
theorem e_fz {t : DW (List D)} {e : Expr} (h : PE X e (lF X F E t)) : PE X e (lE X F E (dFz t)) := e_ofF h
theorem e_gi {x : Str} {i : Int} {pos : Pos} (h : ∃ t, X.mg x = some (.int i t)) (hg : Gl X x) (hd : (x == ("__debug__" : Str)) = false := by decide) : PE X (.Name x pos) (lE X F E (dC (.int i))) := by
  obtain ⟨t, h⟩ := h
  exact e_gint hg h ⟨t, rfl⟩ hd
theorem e_gs {x y : Str} {pos : Pos} (h : ∃ t, X.mg x = some (.str y t)) (hg : Gl X x) (hd : (x == ("__debug__" : Str)) = false := by decide) : PE X (.Name x pos) (lE X F E (dC (.str y))) := by
  obtain ⟨t, h⟩ := h
  exact e_gstr hg h ⟨t, rfl⟩ hd
variable {elt tg iter e : Expr} {ifs : List Expr} {scope : Scope} {tgt : Tg} {g : TG} {tt : DW Bool} {te : DW D} {it : DW (List D)} {p pos : Pos} {st pr : Bool}
theorem f_comp (own : List (Str × Nat)) (bd : Bd X E k) (nd : X.N.Nodup) (ok : blkB X.N X.env.scope scope own = true) (hsl : tgt.slots.all (fun i => (own.map (·.2)).contains i) = true) (hi : PI X tg iter (lI X F E st pr it)) (hgt : GtOk X F pr tgt g)
    (hg : ∀ (s : Shared) (H : Hp) (C : Addr) (cl : List (Str × Addr)) (fp : List Addr), PG (X.blk s H scope (compEnvC scope cl C X.env) fp) tg g) (ht : ∀ (s : Shared) (H : Hp) (C : Addr) (cl : List (Str × Addr)) (fp : List Addr), PTs (X.blk s H scope (compEnvC scope cl C X.env) fp) ifs (lT X F E00 tt))
    (he : ∀ (s : Shared) (H : Hp) (C : Addr) (cl : List (Str × Addr)) (fp : List Addr), PE (X.blk s H scope (compEnvC scope cl C X.env) fp) elt (lE X F E00 te)) (hs : ∀ x, foldedSetIterable iter X.env x = pure x := by intro _; rfl) :
    PE X (.ListComp elt [⟨tg, iter, ifs, 0⟩] scope pos) (lF X F E (dComp it tgt tt te (own.map (·.2)))) := f_lc (vs := []) bd.calm nd hi (blk_ok ok) hgt hsl hg ht he hs
end
end DL
namespace DL
open PySem PySem.Spec PyProof.Rows L2
def gSumL (ds : List D) (R : D → Prop) : Prop := ∃ ns, unInts ds = some ns ∧ R (.int ns.sum)
def gLenL (ds : List D) (R : D → Prop) : Prop := R (.int ds.length)
def gTupL (ds : List D) (R : D → Prop) : Prop := R (.tup ds)
section
variable {P : Program} {w : World} {K : PySem.W.Frag} {mg : Str → Option Value} {base : Heap} {x qual : Str} {f : Addr} {fd : FuncData} {N ps : List Str} {c : Nat}
theorem D_none {φ : Φ} {params : Arguments} {body : List Stmt} {scope : Scope} {cu : Bool} (h0 : ∀ ds R Z, ¬ φ ds R Z) (hm : mg x = some (.ref f)) (Fd : FunD K x qual params body scope [] [] f fd)
    (hbind : ∀ (kV doc pm : Value) (an : Option Addr) (cdv ct : Value) (us : List Value), us.length = ps.length → bindArgs (PySem.W.fnOf x qual params body scope .none kV doc pm an cdv ct) ⟨us, []⟩ = pure (ps.zip us)) : Has P w K mg base c x ps cu φ :=
  ⟨f, fd, ⟨fun vs H Q E ⟨_, _, _, _, _, _, _, _, h, _⟩ => (h0 _ _ _ h).elim, fun A outer s H args us vs Q E _ _ _ _ ⟨_, _, _, _, _, _, _, _, h, _⟩ => (h0 _ _ _ h).elim⟩, hm, Fd.kp, Fd.bindsN hbind, fun ds R Z h => (h0 _ _ _ h).elim⟩
theorem D_rec {φ : Nat → Φ} {t : Φ → DS} {params : Arguments} {body : List Stmt} {scope : Scope} {cu : Bool} (h0 : ∀ ds R Z, ¬ φ 0 ds R Z) (hm : mg x = some (.ref f)) (Fd : FunD K x qual params body scope [] [] f fd) (sc : FnScope N ps scope)
    (hbind : ∀ (kV doc pm : Value) (an : Option Addr) (cdv ct : Value) (us : List Value), us.length = ps.length → bindArgs (PySem.W.fnOf x qual params body scope .none kV doc pm an cdv ct) ⟨us, []⟩ = pure (ps.zip us))
    (hbody : ∀ n, Has P w K mg base (n + c) x ps cu (φ n) → ∀ (cd : Value) (A : Around) (outer : List Env) (s : Shared) (H : Hp) (E : XK) (F : Fx), Bs (cxD P w K mg base N qual scope f cd A outer s H E) (fun _ => E) (n + c) →
      PSs (cxD P w K mg base N qual scope f cd A outer s H E) body (lS (cxD P w K mg base N qual scope f cd A outer s H E) F (fun _ => E) (t (φ n))))
    (len : ∀ n ds R Z, φ n ds R Z → nV cu ds = ps.length)
    (pure : ∀ n ds R Z, φ (n + 1) ds R Z → t (φ n) (ends R Z) (start' N.length cu ds)) : ∀ n, Has P w K mg base (n + c) x ps cu (φ n)
  | 0 => D_none h0 hm Fd hbind
  | n + 1 => by
    have q := D_has (k := n + c) hm Fd sc hbind (hbody n (D_rec h0 hm Fd sc hbind hbody len pure n)) (len (n + 1)) (pure n)
    rw [show n + c + 1 = n + 1 + c by omega] at q
    exact q
end
section
variable {X : Cx} {F : Fx} {E : EX} {k : Nat} {elt tg iter e : Expr} {ifs : List Expr} {scope : Scope} {tgt : Tg} {g : TG} {tt : DW Bool} {te : DW D} {it : DW (List D)} {p pos spos py : Pos} {st pr : Bool} {y : Str}
theorem names_of {c : Str} (h : HasExc X.K X.mg c) (hg : Gl X c) (hdb : (c == ("__debug__" : Str)) = false := by decide) : Names X c (.ref (He.ga X.K c)) := ⟨hg, hdb, .inl h.1⟩
theorem s_comp (i : Nat) (own : List (Str × Nat)) (bd : Bd X E k) (nd : X.N.Nodup) (ok : blkB X.N X.env.scope scope own = true) (hsl : tgt.slots.all (fun i => (own.map (·.2)).contains i) = true) (hi : PI X tg iter (lI X F E st pr it)) (hgt : GtOk X F pr tgt g)
    (hg : ∀ (s : Shared) (H : Hp) (C : Addr) (cl : List (Str × Addr)) (fp : List Addr), PG (X.blk s H scope (compEnvC scope cl C X.env) fp) tg g) (ht : ∀ (s : Shared) (H : Hp) (C : Addr) (cl : List (Str × Addr)) (fp : List Addr), PTs (X.blk s H scope (compEnvC scope cl C X.env) fp) ifs (lT X F E00 tt))
    (he : ∀ (s : Shared) (H : Hp) (C : Addr) (cl : List (Str × Addr)) (fp : List Addr), PE (X.blk s H scope (compEnvC scope cl C X.env) fp) elt (lE X F E00 te)) (hy : X.N[i]? = some y := by rfl) (hyl : X.env.scope.names.lookup y = some .local := by rfl)
    (hsw : swapsWith (.ListComp elt [⟨tg, iter, ifs, 0⟩] scope pos) (some (.Name y py)) spos.line X.env = pure true := by rfl) (hs : ∀ x, foldedSetIterable iter X.env x = pure x := by intro _; rfl) :
    PS X (.Assign [.Name y py] (.ListComp elt [⟨tg, iter, ifs, 0⟩] scope pos) spos) (lS X F E (dSet i (dFz (dComp it tgt tt te (own.map (·.2)))))) := s_setLcP i bd.calm nd hy hyl hsw hi (blk_ok ok) hgt hsl hg ht he hs
theorem s_compO (i : Nat) (own : List (Str × Nat)) (bd : Bd X E k) (nd : X.N.Nodup) (ok : blkB X.N X.env.scope scope own = true) (hsl : tgt.slots.all (fun i => (own.map (·.2)).contains i) = true) (hi : PI X tg iter (lI X F E st pr it)) (hgt : GtOk X F pr tgt g)
    (hg : ∀ (s : Shared) (H : Hp) (C : Addr) (cl : List (Str × Addr)) (fp : List Addr), PG (X.blk s H scope (compEnvC scope cl C X.env) fp) tg g) (ht : ∀ (s : Shared) (H : Hp) (C : Addr) (cl : List (Str × Addr)) (fp : List Addr), PTs (X.blk s H scope (compEnvC scope cl C X.env) fp) ifs (lT X F E00 tt))
    (he : ∀ (s : Shared) (H : Hp) (C : Addr) (cl : List (Str × Addr)) (fp : List Addr), PE (X.blk s H scope (compEnvC scope cl C X.env) fp) elt (lE X F E00 te)) (hy : X.N[i]? = some y := by rfl) (hyl : X.env.scope.names.lookup y = some .local := by rfl)
    (hsw : swapsWith (.ListComp elt [⟨tg, iter, ifs, 0⟩] scope pos) (some (.Name y py)) spos.line X.env = pure true := by rfl) (hs : ∀ x, foldedSetIterable iter X.env x = pure x := by intro _; rfl) :
    PS X (.Assign [.Name y py] (.ListComp elt [⟨tg, iter, ifs, 0⟩] scope pos) spos) (lS X F E (dSetF i (dComp it tgt tt te (own.map (·.2))))) := s_setLc i bd.calm nd hy hyl hsw hi (blk_ok ok) hgt hsl hg ht he hs
end
end DL
namespace DL
open PySem PySem.Spec PyProof.Rows L2
/-! ### plain facts about data -/
abbrev iL (ns : List Int) : List D := ns.map D.int
abbrev iT (ns : List Int) : D := .tup (ns.map D.int)
theorem eqvD_int (a b : Int) : eqvD (.int a) (.int b) = decide (a = b) := by
  simp [eqvD, pyD, PyData.eqv, Bool.beq_eq_decide_eq]
theorem inF_int (x : Int) (ns : List Int) : inF (.int x) (iL ns) = decide (x ∈ ns) := by
  unfold inF
  rw [Bool.eq_iff_iff, List.any_eq_true, decide_eq_true_iff]
  constructor
  · rintro ⟨d, hd, h⟩
    obtain ⟨n, hn, rfl⟩ := List.mem_map.mp hd
    rw [eqvD_int, decide_eq_true_iff] at h
    exact h ▸ hn
  · intro h
    exact ⟨.int x, List.mem_map_of_mem h, by rw [eqvD_int]; exact decide_eq_true rfl⟩
theorem imap_inj (a b : List Int) : (List.map D.int a = List.map D.int b) = (a = b) := by
  refine propext ⟨fun h => ?_, fun h => by rw [h]⟩
  have := congrArg unInts h
  rw [unInts_map, unInts_map] at this
  exact Option.some.inj this
theorem flat_ints (ns : List Int) : (iL ns).all flatD = true := List.all_eq_true.mpr fun d hd => by
  obtain ⟨n, _, rfl⟩ := List.mem_map.mp hd
  rfl
theorem canLay_ints (ns : List Int) : PyData.canLayAll0 (pyDs (iL ns)) = true := by
  induction ns with
  | nil => rfl
  | cons n ns ih => simp [iL, pyDs, pyD, PyData.canLayAll0, PyData.canLay0]; exact ih
theorem depth_ints (ns : List Int) : PyData.depthAll (pyDs (iL ns)) = 0 := by
  induction ns with
  | nil => rfl
  | cons n ns ih => simp [iL, pyDs, pyD, PyData.depthAll, PyData.depth]; exact ih
theorem okD_int (n : Int) : okD (.int n) = true := rfl
theorem okD_tup (ns : List Int) : okD (iT ns) = true := by
  unfold okD SeqAt.shaped iT
  rw [pyD, PyData.canLay0, canLay_ints]
  simp [PyData.depth, depth_ints]
theorem okD_lst (ns : List Int) : okD (.lst (iL ns)) = true := by
  unfold okD SeqAt.shaped
  rw [pyD, PyData.canLay0, canLay_ints]
  simp [PyData.depth, depth_ints]
theorem eqvAll_ints : ∀ a b : List Int, PyData.eqvAll (pyDs (iL a)) (pyDs (iL b)) = decide (a = b)
  | [], [] => rfl
  | [], _ :: _ => rfl
  | _ :: _, [] => rfl
  | x :: xs, y :: ys => by
    have ih := eqvAll_ints xs ys
    simp [iL, pyDs, pyD, PyData.eqvAll, PyData.eqv, Bool.beq_eq_decide_eq] at ih ⊢
    rw [ih]
theorem eqvD_tup (a b : List Int) : eqvD (iT a) (iT b) = decide (a = b) := by
  have := eqvAll_ints a b
  simpa [eqvD, iT, pyD, PyData.eqv] using this
theorem eqvD_lst (a b : List Int) : eqvD (.lst (iL a)) (.lst (iL b)) = decide (a = b) := by
  have := eqvAll_ints a b
  simpa [eqvD, pyD, PyData.eqv] using this
theorem okD_tup0 : okD (.tup []) = true := okD_tup []
theorem okD_lst0 : okD (.lst []) = true := okD_lst []
theorem eqvD_tup0 (a : List Int) : eqvD (iT a) (.tup []) = decide (a = []) := eqvD_tup a []
theorem eqvD_lst0 (a : List Int) : eqvD (.lst (iL a)) (.lst []) = decide (a = []) := eqvD_lst a []
theorem ints_of' {P : Int → Prop} : ∀ {ys : List D}, (∀ y ∈ ys, ∃ z : Int, y = .int z ∧ P z) → ∃ zs : List Int, ys = iL zs ∧ ∀ z ∈ zs, P z
  | [], _ => ⟨[], rfl, fun _ h => by cases h⟩
  | y :: ys, h => by
    obtain ⟨z, rfl, hz⟩ := h y List.mem_cons_self
    obtain ⟨zs, rfl, hzs⟩ := ints_of' fun y hy => h y (List.mem_cons_of_mem _ hy)
    exact ⟨z :: zs, rfl, fun w hw => by
      rcases List.mem_cons.mp hw with rfl | hw
      · exact hz
      · exact hzs w hw⟩
theorem atI_ints {ns : List Int} {i : Nat} (h : i < ns.length) : L2.atI (List.map D.int ns) (i : Int) = some (.int (ns.getD i 0)) := by
  refine atI_nat ?_
  rw [List.getElem?_map, List.getElem?_eq_getElem h, List.getD_eq_getElem?_getD, List.getElem?_eq_getElem h]
  rfl
theorem dMax_ints (n : Int) (ns : List Int) : dMax (.int n) (iL ns) = .int (ns.foldl max n) := by
  have h := dMax_py (.int n) (iL ns)
  rw [List.map_map] at h
  have e : pyD ∘ D.int = PyData.int := rfl
  rw [e] at h
  have h2 : pyD (dMax (.int n) (iL ns)) = .int (ns.foldl max n) := h.trans (PySem.W.maxD_ints n ns)
  exact (pyD_inj (okD_int (ns.foldl max n)) h2.symm).symm
theorem maxOk_ints (ns : List Int) : MaxOk (iL ns) := by
  have e : (iL ns).map pyD = ns.map PyData.int := by rw [List.map_map]; rfl
  refine ⟨?_, ?_, fun d hd => ?_⟩
  · rw [e]
    refine ⟨fun x hx y hy => ?_, fun x hx => ?_⟩
    · obtain ⟨a, _, rfl⟩ := List.mem_map.mp hx
      obtain ⟨b, _, rfl⟩ := List.mem_map.mp hy
      rfl
    · obtain ⟨a, _, rfl⟩ := List.mem_map.mp hx
      simp
  · have := depth_ints ns
    rw [← pyDs_map, this]
    omega
  · obtain ⟨a, _, rfl⟩ := List.mem_map.mp hd
    rfl
theorem compD_eq {tg : Tg} {tt : DW Bool} {te : DW D} {ρ : List S} {ds ds' : List D} {R : List D → Prop} (e : ds = ds') (h : compD tg tt te ρ ds' R) : compD tg tt te ρ ds R := e ▸ h
theorem atI0 {α : Type} (d : α) (r : List α) : L2.atI (d :: r) 0 = some d := by
  simp [L2.atI, L2.ixN]
theorem zipD_ints : ∀ a b : List Int, zipD (iL a) (iL b) = (a.zip b).map fun p => .tup [.int p.1, .int p.2]
  | [], _ => rfl
  | _ :: _, [] => rfl
  | x :: a, y :: b => by
    have ih := zipD_ints a b
    simp [iL, zipD] at ih ⊢
    exact ih
theorem enD_ints : ∀ (n : Nat) (a : List Int), enD n (iL a) = (a.zipIdx n).map fun p => .tup [.int (p.2 : Nat), .int p.1]
  | _, [] => rfl
  | n, x :: a => by
    have ih := enD_ints (n + 1) a
    simp [iL, enD] at ih ⊢
    exact ih
theorem cut_ints (a : List Int) (lo hi : Option Int) : cutD (iL a) lo hi = iL ((a.drop (HT.sIx a.length 0 lo)).take (HT.sIx a.length a.length hi - HT.sIx a.length 0 lo)) := by
  simp [cutD, iL, List.map_take, List.map_drop]
theorem cut_from (a : List Int) (k : Nat) : cutD (iL a) (some (k : Int)) none = iL (a.drop k) := by
  rw [cut_ints, HT.sIx_nat, HT.sIx_none]
  congr 1
  by_cases h : k ≤ a.length
  · rw [Nat.min_eq_left h, List.take_of_length_le (by rw [List.length_drop]; omega)]
  · rw [Nat.min_eq_right (by omega), List.drop_length, List.take_nil, List.drop_eq_nil_of_le (by omega)]
theorem cut_to (a : List Int) (k : Nat) : cutD (iL a) none (some (k : Int)) = iL (a.take k) := by
  rw [cut_ints, HT.sIx_nat, HT.sIx_none, List.drop_zero, Nat.sub_zero]
  congr 1
  by_cases h : k ≤ a.length
  · rw [Nat.min_eq_left h]
  · rw [Nat.min_eq_right (by omega), List.take_length, List.take_of_length_le (by omega)]
theorem atI_mem {α : Type} {xs : List α} {r : Int} (h0 : 0 ≤ r) (h1 : r < xs.length) : ∃ x ∈ xs, L2.atI xs r = some x := by
  obtain ⟨k, rfl⟩ := Int.eq_ofNat_of_zero_le h0
  have hk : k < xs.length := by omega
  exact ⟨xs[k], List.getElem_mem hk, atI_nat (List.getElem?_eq_getElem hk)⟩
theorem atI_get' {α : Type} {xs : List α} {k : Nat} (h : k < xs.length) : L2.atI xs (k : Int) = some xs[k] := atI_nat (List.getElem?_eq_getElem h)
theorem unBls_all (l : List Bool) : unBls (l.map D.bl) = some l := unBls_map l
theorem rising_iff : ∀ ns : List Int, ((ns.zip (ns.drop 1)).all fun p => decide (p.1 < p.2)) = decide (ns.Pairwise (· < ·))
  | [] => by simp
  | [x] => by simp
  | x :: y :: r => by
    have ih := rising_iff (y :: r)
    simp only [List.drop_succ_cons, List.drop_zero, List.zip_cons_cons, List.all_cons] at ih ⊢
    rw [Bool.eq_iff_iff] at ih ⊢
    rw [Bool.and_eq_true, ih, decide_eq_true_iff, decide_eq_true_iff, decide_eq_true_iff]
    constructor
    · rintro ⟨h1, h2⟩
      refine List.pairwise_cons.mpr ⟨fun z hz => ?_, h2⟩
      rcases List.mem_cons.mp hz with rfl | hz
      · exact h1
      · have := (List.pairwise_cons.mp h2).1 z hz
        omega
    · intro h
      exact ⟨(List.pairwise_cons.mp h).1 y List.mem_cons_self, (List.pairwise_cons.mp h).2⟩
def addU (ks : List Int) (z : Int) : List Int := if z ∈ ks then ks else ks ++ [z]
theorem kput_ints (ks : List Int) (z : Int) : kput (ks.map Sum.inl) (Sum.inl z : Key) = (addU ks z).map Sum.inl := by
  unfold kput addU
  have e : ((ks.map (Sum.inl : Int → Key)).any fun k' => decide (k' = Sum.inl z)) = decide (z ∈ ks) := by
    rw [List.any_map, Bool.eq_iff_iff, List.any_eq_true, decide_eq_true_iff]
    simp
  rw [e]
  by_cases h : z ∈ ks <;> simp [h]
theorem addU_nodup {ks : List Int} {z : Int} (h : ks.Nodup) : (addU ks z).Nodup := by
  unfold addU
  split
  · exact h
  · rename_i c
    rw [List.nodup_append]
    exact ⟨h, by simp, fun a ha b hb => by simp at hb; subst hb; exact fun e => c (e ▸ ha)⟩
theorem mem_addU {ks : List Int} {z k : Int} : k ∈ addU ks z ↔ k ∈ ks ∨ k = z := by
  unfold addU
  split
  · rename_i c
    exact ⟨.inl, fun h => h.elim id fun e => e ▸ c⟩
  · simp
theorem addU_length (ks : List Int) (z : Int) : (addU ks z).length ≤ ks.length + 1 := by
  unfold addU
  split <;> simp
/-! ### comprehensions, loops -/
section
variable {tg : Tg} {tt : DW Bool} {te : DW D} {ρ : List S}
theorem compD_map (p : D → Bool) (f : D → D) : ∀ {ds : List D} {R : List D → Prop}, (∀ d ∈ ds, ∀ (K1 : D → Prop) (K2 : Prop), (p d = true → K1 (f d)) → (p d = false → K2) → bindT tg d ρ fun ρ1 => tt ρ1 (fun b => if b = true then te ρ1 K1 Z0 else K2) Z0) → R ((ds.filter p).map f) → compD tg tt te ρ ds R
  | [], R, _, r => r
  | d :: ds, R, h, r => by
    rw [compD]
    refine h d List.mem_cons_self _ _ (fun e => ?_) (fun e => ?_)
    · refine compD_map p f (fun d hd => h d (List.mem_cons_of_mem _ hd)) ?_
      rw [List.filter_cons, if_pos e] at r
      exact r
    · refine compD_map p f (fun d hd => h d (List.mem_cons_of_mem _ hd)) ?_
      rw [List.filter_cons, if_neg (by rw [e]; exact Bool.false_ne_true)] at r
      exact r
theorem compD_mapL {α : Type} (g : α → D) (p : α → Bool) (f : α → D) : ∀ {l : List α} {R : List D → Prop}, (∀ a ∈ l, ∀ (K1 : D → Prop) (K2 : Prop), (p a = true → K1 (f a)) → (p a = false → K2) → bindT tg (g a) ρ fun ρ1 => tt ρ1 (fun b => if b = true then te ρ1 K1 Z0 else K2) Z0) → R ((l.filter p).map f) → compD tg tt te ρ (l.map g) R
  | [], R, _, r => r
  | a :: l, R, h, r => by
    rw [List.map_cons, compD]
    refine h a List.mem_cons_self _ _ (fun e => ?_) (fun e => ?_)
    · refine compD_mapL g p f (fun d hd => h d (List.mem_cons_of_mem _ hd)) ?_
      rw [List.filter_cons, if_pos e] at r
      exact r
    · refine compD_mapL g p f (fun d hd => h d (List.mem_cons_of_mem _ hd)) ?_
      rw [List.filter_cons, if_neg (by rw [e]; exact Bool.false_ne_true)] at r
      exact r
/-- without a condition -/
theorem compD_mapA {α : Type} (g : α → D) (f : α → D) {l : List α} {R : List D → Prop} (h : ∀ a ∈ l, ∀ K1 : D → Prop, K1 (f a) → bindT tg (g a) ρ fun ρ1 => te ρ1 K1 Z0) (r : R (l.map f)) : compD tg dYes te ρ (l.map g) R :=
  compD_mapL g (fun _ => true) f (fun a ha K1 _ k _ => h a ha K1 (k rfl)) (by rw [List.filter_eq_self.mpr (fun _ _ => rfl)]; exact r)
/-- one item for each, not told which -/
theorem compD_some (P : D → Prop) : ∀ {ds : List D} {R : List D → Prop}, (∀ d ∈ ds, ∀ K1 : D → Prop, (∀ y, P y → K1 y) → bindT tg d ρ fun ρ1 => te ρ1 K1 Z0) → (∀ ys, ys.length = ds.length → (∀ y ∈ ys, P y) → R ys) → compD tg dYes te ρ ds R
  | [], R, _, r => r [] rfl (fun _ h => by cases h)
  | d :: ds, R, h, r => by
    rw [compD]
    have q := h d List.mem_cons_self (fun y => compD tg dYes te ρ ds fun ys => R (y :: ys)) fun y hy => compD_some P (fun d hd => h d (List.mem_cons_of_mem _ hd)) fun ys hl hp => r (y :: ys) (by simp [hl]) fun z hz => by
      rcases List.mem_cons.mp hz with rfl | hz
      · exact hy
      · exact hp z hz
    exact q
end
theorem seq1 {t u : DS} {B : DE} {ρ : List S} (ρ' : List S) (h : ∀ N : List S → Prop, N ρ' → t { B with nx := N } ρ) (h2 : u B ρ') : dSeq t u B ρ := h (u B) h2
theorem seqP {t u : DS} {B : DE} {ρ : List S} (P : List S → Prop) (h : ∀ N : List S → Prop, (∀ ρ', P ρ' → N ρ') → t { B with nx := N } ρ) (h2 : ∀ ρ', P ρ' → u B ρ') : dSeq t u B ρ := h (u B) h2
theorem rgD0 (n : Nat) : rgD 0 (n : Int) = (List.range n).map fun i : Nat => D.int (i : Int) := by
  unfold rgD
  simp
theorem forD_inv {tgt : Tg} {tb : DS} {B : DE} (I : Nat → List S → Prop) : ∀ (ds : List D) (n : Nat) (ρ : List S), I n ρ → (∀ i d ρ, ds[i]? = some d → I (n + i) ρ → ∀ K : List S → Prop, (∀ ρ', I (n + i + 1) ρ' → K ρ') → bindT tgt d ρ fun ρ1 => tb { B with nx := K, ct := K, bk := B.nx } ρ1) → (∀ ρ, I (n + ds.length) ρ → B.nx ρ) → forD tgt tb B ds ρ
  | [], n, ρ, h0, _, fin => fin ρ h0
  | d :: ds, n, ρ, h0, step, fin => by
    rw [forD]
    refine step 0 d ρ rfl h0 _ fun ρ' h' => ?_
    refine forD_inv I ds (n + 1) ρ' h' (fun i d ρ hd hI => ?_) (fun ρ h => fin ρ ?_)
    · have := step (i + 1) d ρ (by simpa using hd)
      rw [show n + (i + 1) = n + 1 + i by omega] at this
      exact this hI
    · rw [List.length_cons, show n + (ds.length + 1) = n + 1 + ds.length by omega]
      exact h
end DL
namespace DL
open PySem PySem.Spec PyProof.Rows L2
theorem walk_w {l : PySem.W.OpenLaw} {n k : Nat} {q : Program} {loose : List Str} {XP : (Str → Option Value) → Heap → Prop} {YP : World → Heap → Prop} {d : DefRec} {CX : World → CXT} {x : Str}
    (hn : l.most = some n) (hn2 : n ≤ sizeLine) (hdf : d.params.defaults = []) (hr : Room k callerA)
    (F : ∀ (w : World) (mg : Str → Option Value) (fa : Addr) (h : Heap), YP w h → h.Ns mainGlobals mg → mg d.name = some (.ref fa) →
      ∃ (K : PySem.W.Frag) (fd : FuncData) (sp : Sp), K.In h ∧ (∀ (s : Shared) (u : Value), BindsTo s fd ⟨[u], []⟩ [(x, u)]) ∧
        (∀ (H : Hp) (a : Addr) (ns : List Int), ns.length ≤ n → Only H → SqL K H a (ns.map V.int) → sp [.ref a] H (fun v _ => v = .bl true) fun _ _ _ => False) ∧
        ∀ base : Heap, K.In base → base.Ns mainGlobals mg → FnOk l.prog w K mg base (CX w) k fa fd [x] sp)
    (hCX : ∀ (w : World) (H : Hp) (s : Shared) (e : Value) (s' : Shared), CX w [] H s (fun _ _ _ => False) e s' → False) :
    PySem.W.WalkO q loose XP YP l.row.toRowW d [] (fun f vs => PySem.call f vs) := by
  refine Att.attach_call hn hdf fun w s₀ s₁ mg mb fa o pm cd doc a vs ns G Y ho hd hcd hmg hobj hints hlen hg => ?_
  obtain ⟨K, fd, sp, KX, hb, hsp, hF⟩ := F w mg fa _ Y G.T.g hmg
  exact law_call KX G.T.g G.T.b G.T.builtins G.T.nolimit hg hobj hints (Nat.le_trans hlen hn2) hr hF hb (fun H hO hS => hsp H a ns hlen hO hS) fun H e s' => hCX w H s₁ e s'
theorem cx_false {P : Program} (w : World) (H : Hp) (s : Shared) (e : Value) (s' : Shared) (h : L2.CX P w [] H s (fun _ _ _ => False) e s') : False := by
  obtain ⟨_, _, _, _, _, _, _, _, _, _, _, _, z⟩ := h
  exact z
end DL
namespace K55
open PySem PySem.Spec PyProof.Rows L2 DL
def okP (ns : List Int) : Prop := ns.length ≤ 60 ∧ (∀ n ∈ ns, -100 ≤ n ∧ n ≤ 100) ∧ ns.Pairwise (· < ·)
instance (ns : List Int) : Decidable (okP ns) := by unfold okP; infer_instance
def okT (ns : List Int) : Prop := ns.length ≤ 60 ∧ (∀ n ∈ ns, -100 ≤ n ∧ n ≤ 100)
instance (ns : List Int) : Decidable (okT ns) := by unfold okT; infer_instance
def lostP (ps ns : List Int) : List Int := (((ns.zipIdx 0).filter fun p => !decide (p.1 ∈ ps)).map fun p => (p.2 : Int))
def longF (ps : List Int) : List Int → Int → Int × Int → Int × Int → Int × Int
  | [], _, best, _ => best
  | n :: r, at_, best, now =>
    let now := if n ∈ ps then (now.1, now.2 + 1) else (at_ + 1, 0)
    longF ps r (at_ + 1) (if now.2 > best.2 then now else best) now
theorem zipIdx_range (ns : List Int) : ns.zipIdx 0 = (List.range ns.length).map fun i => (ns.getD i 0, i) := by
  apply List.ext_getElem?
  intro i
  rw [List.getElem?_zipIdx, List.getElem?_map]
  by_cases h : i < ns.length
  · rw [List.getElem?_range h, List.getElem?_eq_getElem h]
    simp [List.getD_eq_getElem?_getD, List.getElem?_eq_getElem h]
  · rw [List.getElem?_eq_none (by omega), List.getElem?_eq_none (by rw [List.length_range]; omega)]
    rfl
theorem lostP_eq (ps ns : List Int) : lostP ps ns = ((List.range ns.length).filter fun i => !decide (ns.getD i 0 ∈ ps)).map fun i : Nat => (i : Int) := by
  unfold lostP
  rw [zipIdx_range, List.filter_map, List.map_map]
  rfl
theorem vals_lost (ps ns : List Int) : (((List.range ns.length).filter fun i => !decide (ns.getD i 0 ∈ ps)).map fun i => ns.getD i 0) = ns.filter fun n => !decide (n ∈ ps) := by
  have e : ns = (ns.zipIdx 0).map (·.1) := by rw [List.zipIdx_map_fst]
  have e2 : ns.filter (fun n => !decide (n ∈ ps)) = ((ns.zipIdx 0).map (·.1)).filter fun n => !decide (n ∈ ps) := by rw [← e]
  rw [e2, zipIdx_range, List.map_map, List.filter_map]
  rfl
theorem lost_nil (ps ns : List Int) : decide (lostP ps ns = []) = ns.all fun n => decide (n ∈ ps) := by
  have h := vals_lost ps ns
  rw [lostP_eq, Bool.eq_iff_iff, decide_eq_true_iff, List.map_eq_nil_iff, List.all_eq_true]
  constructor
  · intro e n hn
    rw [e, List.map_nil] at h
    have := List.filter_eq_nil_iff.mp h.symm n hn
    simpa using this
  · intro e
    have : ns.filter (fun n => !decide (n ∈ ps)) = [] := List.filter_eq_nil_iff.mpr fun n hn => by simp at *; exact e n hn
    rw [this, List.map_eq_nil_iff] at h
    exact h
theorem kmerge_ints : ∀ (l : List Int) (ks : List Int) (vs : List D), (kmerge (ks.map (Sum.inl : Int → Key)) vs (l.map fun z => (Sum.inl z, D.bl true))).1 = (l.foldl addU ks).map Sum.inl
  | [], ks, vs => rfl
  | z :: l, ks, vs => by
    rw [List.map_cons, kmerge, kput_ints, List.foldl_cons]
    exact kmerge_ints l _ _
theorem foldl_addU : ∀ (l ks : List Int), ks.Nodup → (l.foldl addU ks).Nodup ∧ ∀ k, k ∈ l.foldl addU ks ↔ k ∈ ks ∨ k ∈ l
  | [], ks, h => ⟨h, fun k => by simp⟩
  | z :: l, ks, h => by
    obtain ⟨h1, h2⟩ := foldl_addU l (addU ks z) (addU_nodup h)
    refine ⟨h1, fun k => ?_⟩
    rw [List.foldl_cons, h2, mem_addU, List.mem_cons, or_assoc]
theorem sort_dict (l : List Int) : sortI (l.foldl addU []) = sortU l := by
  obtain ⟨h1, h2⟩ := foldl_addU l [] .nil
  rw [sortI_U h1]
  refine asc_ext (sortU_asc _) (sortU_asc _) fun k => ?_
  rw [mem_sortU, mem_sortU, h2]
  simp
theorem dict_len (l ks : List Int) : (l.foldl addU ks).length ≤ ks.length + l.length := by
  induction l generalizing ks with
  | nil => simp
  | cons z l ih =>
    have := ih (addU ks z)
    have h := addU_length ks z
    rw [List.foldl_cons, List.length_cons]
    omega
theorem unPairs_ints : ∀ l : List Int, unPairs (l.map fun z => .tup [.int z, .bl true]) = some (l.map fun z => (Sum.inl z, D.bl true))
  | [] => rfl
  | z :: l => by simp [unPairs, keyD, unPairs_ints l]
/-! counts -/
theorem count_filter (p : Int) (ns : List Int) : (ns.filter fun t => decide (t = p)).length = ns.count p := by
  rw [List.count, List.countP_eq_length_filter]
  congr 1
theorem idle_eq (ps ns : List Int) : (((ps.zip (ps.map fun p => (ns.count p : Int))).filter fun q => decide (q.2 = 0)).map (·.1)) = ps.filter fun p => !decide (p ∈ ns) := by
  induction ps with
  | nil => rfl
  | cons p ps ih =>
    rw [List.map_cons, List.zip_cons_cons, List.filter_cons, List.filter_cons]
    by_cases h : p ∈ ns
    · have : ¬ ((ns.count p : Nat) : Int) = 0 := by have := List.count_pos_iff.mpr h; omega
      rw [if_neg (by simpa using fun e => this (by omega)), if_neg (by simp [h])]
      exact ih
    · have : ((ns.count p : Nat) : Int) = 0 := by rw [List.count_eq_zero.mpr h]; rfl
      rw [if_pos (by simp; omega), if_pos (by simp [h]), List.map_cons, ih]
theorem lost_length (ps ns : List Int) : (lostP ps ns).length = (ns.filter fun n => !decide (n ∈ ps)).length := by
  rw [← vals_lost, lostP_eq, List.length_map, List.length_map]
theorem sum_counts : ∀ (ps ns : List Int), ps.Nodup → (ps.map fun p => (ns.count p : Int)).sum + ((ns.filter fun n => !decide (n ∈ ps)).length : Int) = ns.length := by
  intro ps ns nd
  induction ns with
  | nil => simp; induction ps with
    | nil => rfl
    | cons p ps ih => simp; exact ih (List.nodup_cons.mp nd).2
  | cons n ns ih =>
    have add : ∀ qs : List Int, qs.Nodup → (qs.map fun p => ((n :: ns).count p : Int)).sum = (qs.map fun p => (ns.count p : Int)).sum + if n ∈ qs then 1 else 0 := by
      intro qs h
      induction qs with
      | nil => simp
      | cons q qs ihq =>
        have h' := List.nodup_cons.mp h
        rw [List.map_cons, List.map_cons, List.sum_cons, List.sum_cons, ihq h'.2, List.count_cons]
        by_cases e : n = q
        · subst e
          simp [h'.1]
          omega
        · have e2 : ¬ q = n := fun z => e z.symm
          by_cases m : n ∈ qs <;> simp [e, m] <;> omega
    rw [add ps nd, List.filter_cons]
    by_cases m : n ∈ ps <;> simp [m] <;> omega
/-! both -/
theorem both_eq (ps qs : List Int) (h1 : ∀ n ∈ ps, -8 ≤ n ∧ n ≤ 16) (h2 : ∀ n ∈ qs, -8 ≤ n ∧ n ≤ 16) : (((List.range 25).map fun i => (-8 : Int) + (i : Nat)).filter fun t => decide (t ∈ ps) || decide (t ∈ qs)) = sortU (ps ++ qs) := by
  refine asc_ext (List.Pairwise.filter _ ?_) (sortU_asc _) fun k => ?_
  · rw [List.pairwise_map]
    exact List.pairwise_lt_range.imp fun h => by omega
  · rw [mem_sortU, List.mem_append, List.mem_filter, List.mem_map]
    simp only [Bool.or_eq_true, decide_eq_true_iff, List.mem_range]
    constructor
    · exact fun h => h.2
    · intro h
      have hb : -8 ≤ k ∧ k ≤ 16 := h.elim (h1 k) (h2 k)
      exact ⟨⟨(k + 8).toNat, by omega, by omega⟩, h⟩
theorem sortU_comm (a b : List Int) : sortU (a ++ b) = sortU (b ++ a) := asc_ext (sortU_asc _) (sortU_asc _) fun k => by
  rw [mem_sortU, mem_sortU, List.mem_append, List.mem_append, or_comm]
theorem asc_bound : ∀ (l : List Int) (lo : Int), l.Pairwise (· < ·) → (∀ n ∈ l, lo ≤ n ∧ n ≤ 16) → (l.length : Int) ≤ if lo ≤ 16 then 17 - lo else 0
  | [], lo, _, _ => by simp; split <;> omega
  | x :: l, lo, h, hb => by
    have h' := List.pairwise_cons.mp h
    have hx := hb x List.mem_cons_self
    have := asc_bound l (x + 1) h'.2 fun n hn => by
      have := h'.1 n hn
      have := hb n (List.mem_cons_of_mem _ hn)
      omega
    rw [List.length_cons]
    split at this <;> split <;> omega
/-! the longest run -/
def partsOf (e : List Int) : List (Int × Int) := (List.range (e.length - 1)).map fun i => (e.getD (i + 1) 0 - e.getD i 0 - 1, e.getD i 0 + 1)
theorem partsOf_cons (x y : Int) (r : List Int) : partsOf (x :: y :: r) = (y - x - 1, x + 1) :: partsOf (y :: r) := by
  unfold partsOf
  simp only [List.length_cons, Nat.add_sub_cancel]
  rw [List.range_succ_eq_map, List.map_cons, List.map_map]
  rfl
def lostZ (ps : List Int) : List Int → Int → List Int
  | [], _ => []
  | n :: r, at_ => if n ∈ ps then lostZ ps r (at_ + 1) else at_ :: lostZ ps r (at_ + 1)
theorem lostZ_eq (ps : List Int) : ∀ (ns : List Int) (k : Nat), (((ns.zipIdx k).filter fun p => !decide (p.1 ∈ ps)).map fun p => (p.2 : Int)) = lostZ ps ns k
  | [], _ => rfl
  | n :: r, k => by
    have ih := lostZ_eq ps r (k + 1)
    rw [List.zipIdx_cons, List.filter_cons, lostZ]
    by_cases h : n ∈ ps
    · simp only [h, decide_true, Bool.not_true, if_true, Bool.false_eq_true, if_false]
      rw [ih]; congr 1
    · simp only [h, decide_false, Bool.not_false, if_true, if_false, List.map_cons]
      rw [ih]; congr 1
def segs (ps : List Int) : List Int → Int → Int → List (Int × Int)
  | [], at_, s => [(at_ - s, s)]
  | n :: r, at_, s => if n ∈ ps then segs ps r (at_ + 1) s else (at_ - s, s) :: segs ps r (at_ + 1) (at_ + 1)
theorem parts_segs (ps : List Int) : ∀ (ns : List Int) (at_ s : Int), partsOf ((s - 1) :: (lostZ ps ns at_ ++ [at_ + ns.length])) = segs ps ns at_ s
  | [], at_, s => by
    simp [lostZ, segs, partsOf_cons]
    refine ⟨by omega, rfl⟩
  | n :: r, at_, s => by
    have e : at_ + ((n :: r).length : Int) = (at_ + 1) + r.length := by rw [List.length_cons]; omega
    rw [e, lostZ, segs]
    by_cases h : n ∈ ps
    · simp only [h, if_true]
      exact parts_segs ps r (at_ + 1) s
    · simp only [h, if_false, List.cons_append]
      have ih := parts_segs ps r (at_ + 1) (at_ + 1)
      rw [show at_ + 1 - 1 = at_ by omega] at ih
      rw [partsOf_cons, ih]
      congr 1
      rw [Prod.mk.injEq]
      omega
def pick : Int × Int → List (Int × Int) → Int × Int
  | b, [] => b
  | b, (l, s) :: t => pick (if l > b.2 then (s, l) else b) t
theorem segs_head (ps : List Int) : ∀ (ns : List Int) (at_ s : Int), ∃ l t, segs ps ns at_ s = (l, s) :: t ∧ at_ - s ≤ l
  | [], at_, s => ⟨_, _, rfl, Int.le_refl _⟩
  | n :: r, at_, s => by
    rw [segs]
    split
    · obtain ⟨l, t, e, h⟩ := segs_head ps r (at_ + 1) s
      exact ⟨l, t, e, by omega⟩
    · exact ⟨_, _, rfl, Int.le_refl _⟩
theorem longF_segs (ps : List Int) : ∀ (ns : List Int) (at_ s : Int) (best : Int × Int), s ≤ at_ → at_ - s ≤ best.2 → longF ps ns at_ best (s, at_ - s) = pick best (segs ps ns at_ s)
  | [], at_, s, best, h0, h => by
    rw [longF, segs, pick, pick, if_neg (by omega)]
  | n :: r, at_, s, best, h0, h => by
    rw [longF, segs]
    by_cases hn : n ∈ ps
    · simp only [hn, if_true]
      have e : at_ - s + 1 = at_ + 1 - s := by omega
      rw [e]
      by_cases hb : at_ + 1 - s > best.2
      · rw [if_pos hb, longF_segs ps r (at_ + 1) s _ (by omega) (by simp)]
        obtain ⟨l, t, e, hl⟩ := segs_head ps r (at_ + 1) s
        rw [e, pick, pick, if_pos (show l > best.2 by omega)]
        split
        · rfl
        · rename_i c
          have : l = at_ + 1 - s := by simp at c; omega
          rw [this]
      · rw [if_neg hb, longF_segs ps r (at_ + 1) s _ (by omega) (by omega)]
    · simp only [hn, if_false]
      rw [if_neg (by omega)]
      have q := longF_segs ps r (at_ + 1) (at_ + 1) best (by omega) (by omega)
      rw [show at_ + 1 - (at_ + 1) = 0 by omega] at q
      rw [q, pick, if_neg (by omega)]
def mxOf (b : Int) (P : List (Int × Int)) : Int := (P.map (·.1)).foldl max b
theorem mxOf_le (P : List (Int × Int)) : ∀ b : Int, b ≤ mxOf b P := by
  induction P with
  | nil => intro b; exact Int.le_refl _
  | cons p P ih => intro b; exact Int.le_trans (Int.le_max_left _ _) (ih (max b p.1))
theorem pick_mx : ∀ (P : List (Int × Int)) (b : Int × Int), (b.2 < mxOf b.2 P → ∃ s, P.find? (fun p => decide (p.1 = mxOf b.2 P)) = some (mxOf b.2 P, s) ∧ pick b P = (s, mxOf b.2 P)) ∧ (¬ b.2 < mxOf b.2 P → pick b P = b)
  | [], b => ⟨fun h => absurd h (by simp [mxOf]), fun _ => rfl⟩
  | (l, s) :: T, b => by
    have e : mxOf b.2 ((l, s) :: T) = mxOf (max b.2 l) T := rfl
    rw [e, pick]
    by_cases hl : l > b.2
    · rw [if_pos hl]
      have em : max b.2 l = l := by omega
      rw [em]
      obtain ⟨i1, i2⟩ := pick_mx T (s, l)
      refine ⟨fun _ => ?_, fun h => absurd (mxOf_le T l) (by omega)⟩
      by_cases hm : l < mxOf l T
      · obtain ⟨s', h1, h2⟩ := i1 hm
        exact ⟨s', by rw [List.find?_cons_of_neg (by simp; omega)]; exact h1, h2⟩
      · have el : mxOf l T = l := by have := mxOf_le T l; omega
        rw [el]
        exact ⟨s, by rw [List.find?_cons_of_pos (by simp)], i2 hm⟩
    · rw [if_neg hl]
      have em : max b.2 l = b.2 := by omega
      rw [em]
      obtain ⟨i1, i2⟩ := pick_mx T b
      refine ⟨fun h => ?_, i2⟩
      obtain ⟨s', h1, h2⟩ := i1 h
      exact ⟨s', by rw [List.find?_cons_of_neg (by simp; omega)]; exact h1, h2⟩
theorem longest (ps ns : List Int) : ∃ l0 s0 T, partsOf (-1 :: (lostP ps ns ++ [(ns.length : Int)])) = (l0, s0) :: T ∧ 0 ≤ l0 ∧
    ((0 < mxOf l0 T → ∃ s, ((l0, s0) :: T).find? (fun p => decide (p.1 = mxOf l0 T)) = some (mxOf l0 T, s) ∧ longF ps ns 0 (0, 0) (0, 0) = (s, mxOf l0 T)) ∧ (¬ 0 < mxOf l0 T → longF ps ns 0 (0, 0) (0, 0) = (0, 0))) := by
  have h1 := parts_segs ps ns 0 0
  have h2 : lostZ ps ns 0 = lostP ps ns := (lostZ_eq ps ns 0).symm
  rw [h2, show (0 : Int) - 1 = -1 by omega, show (0 : Int) + (ns.length : Int) = ns.length by omega] at h1
  obtain ⟨l0, T, e, h0⟩ := segs_head ps ns 0 0
  have h3 := longF_segs ps ns 0 0 (0, 0) (by omega) (by simp)
  rw [show (0 : Int) - 0 = 0 by omega] at h3 h0
  obtain ⟨i1, i2⟩ := pick_mx ((l0, 0) :: T) (0, 0)
  have em : mxOf 0 ((l0, 0) :: T) = mxOf l0 T := by
    show mxOf (max 0 l0) T = _
    rw [show max 0 l0 = l0 by omega]
  rw [em] at i1 i2
  refine ⟨l0, 0, T, by rw [h1, e], h0, fun h => ?_, fun h => ?_⟩
  · obtain ⟨s, a1, a2⟩ := i1 h
    exact ⟨s, a1, by rw [h3, e]; exact a2⟩
  · rw [h3, e]; exact i2 h
def top (i : Nat) : Stmt := PySem.Challenge.pw_toneyard_k55_whole_tunes_played.main.body.getD i (.Pass ⟨0, 0, 0, 0⟩)
abbrev FnP (K : PySem.W.Frag) (x : Str) (st : Stmt) (f : Addr) (fd : FuncData) : Prop := FunD K x x (defArgs st) (defBody st) (defScope st) [] [] f fd
abbrev s__law_cup : Stmt := top 34
abbrev s__law_roll : Stmt := top 35
abbrev s__law_pipes : Stmt := top 39
abbrev s__law_tune : Stmt := top 38
abbrev s__law_some : Stmt := top 36
abbrev s__law_same : Stmt := top 37
abbrev s_is_tuple_of : Stmt := top 10
abbrev s_is_rising : Stmt := top 11
abbrev s_is_whole : Stmt := top 8
abbrev s_fits_whole : Stmt := top 9
abbrev s_fits_tone : Stmt := top 12
abbrev s_fits_pipes : Stmt := top 18
abbrev s_need_pipes : Stmt := top 19
abbrev s_with_pipes : Stmt := top 31
abbrev s_fits_tune : Stmt := top 13
abbrev s_need_tune : Stmt := top 14
abbrev s_need_both : Stmt := top 20
abbrev s_can_in : Stmt := top 21
abbrev s_can_play : Stmt := top 25
abbrev s_lacks_in : Stmt := top 22
abbrev s_lacking : Stmt := top 26
abbrev s_lost_places : Stmt := top 27
abbrev s_moved : Stmt := top 23
abbrev s_shifted_pipes : Stmt := top 32
abbrev s_is_pipes : Stmt := top 24
abbrev s_longest_played : Stmt := top 28
abbrev s_turn_counts : Stmt := top 30
abbrev s_idle_pipes : Stmt := top 29
abbrev s_law : Stmt := top 40
/-- what the head gives -/
structure Top (K : PySem.W.Frag) (mg : Str → Option Value) : Prop where
  m_abs : mg "abs" = none
  m_all : mg "all" = none
  m_bool : mg "bool" = none
  m_dict : mg "dict" = none
  m_enumerate : mg "enumerate" = none
  m_int : mg "int" = none
  m_isinstance : mg "isinstance" = none
  m_len : mg "len" = none
  m_list : mg "list" = none
  m_max : mg "max" = none
  m_range : mg "range" = none
  m_set : mg "set" = none
  m_sorted : mg "sorted" = none
  m_str : mg "str" = none
  m_sum : mg "sum" = none
  m_tuple : mg "tuple" = none
  m_zip : mg "zip" = none
  c_HIGH : ∃ t, mg "HIGH" = some (.int 100 t)
  c_LONGEST : ∃ t, mg "LONGEST" = some (.int 60 t)
  c_PIPES : ∃ t, mg "PIPES" = some (.int 60 t)
  c_SHIFT : ∃ t, mg "SHIFT" = some (.int 200 t)
  x_InvalidNumber : HasExc K mg "InvalidNumber"
  x_InvalidSet : HasExc K mg "InvalidSet"
  x_InvalidTune : HasExc K mg "InvalidTune"
  t_InvalidNumber : ∀ z ∈ (["InvalidNumber"] : List Str), ∀ a, mg z = some (.ref a) → PySem.W.exmOne K (.ref a) (.ref (He.ga K "InvalidNumber")) = some true
  d__law_cup : ∃ fd, FnP K "_law_cup" s__law_cup (He.ga K "_law_cup") fd ∧ mg "_law_cup" = some (.ref (He.ga K "_law_cup"))
  d__law_roll : ∃ fd, FnP K "_law_roll" s__law_roll (He.ga K "_law_roll") fd ∧ mg "_law_roll" = some (.ref (He.ga K "_law_roll"))
  d__law_pipes : ∃ fd, FnP K "_law_pipes" s__law_pipes (He.ga K "_law_pipes") fd ∧ mg "_law_pipes" = some (.ref (He.ga K "_law_pipes"))
  d__law_tune : ∃ fd, FnP K "_law_tune" s__law_tune (He.ga K "_law_tune") fd ∧ mg "_law_tune" = some (.ref (He.ga K "_law_tune"))
  d__law_some : ∃ fd, FnP K "_law_some" s__law_some (He.ga K "_law_some") fd ∧ mg "_law_some" = some (.ref (He.ga K "_law_some"))
  d__law_same : ∃ fd, FnP K "_law_same" s__law_same (He.ga K "_law_same") fd ∧ mg "_law_same" = some (.ref (He.ga K "_law_same"))
  d_is_tuple_of : ∃ fd, FnP K "is_tuple_of" s_is_tuple_of (He.ga K "is_tuple_of") fd ∧ mg "is_tuple_of" = some (.ref (He.ga K "is_tuple_of"))
  d_is_rising : ∃ fd, FnP K "is_rising" s_is_rising (He.ga K "is_rising") fd ∧ mg "is_rising" = some (.ref (He.ga K "is_rising"))
  d_is_whole : ∃ fd, FnP K "is_whole" s_is_whole (He.ga K "is_whole") fd ∧ mg "is_whole" = some (.ref (He.ga K "is_whole"))
  d_fits_whole : ∃ fd, FnP K "fits_whole" s_fits_whole (He.ga K "fits_whole") fd ∧ mg "fits_whole" = some (.ref (He.ga K "fits_whole"))
  d_fits_tone : ∃ fd, FnP K "fits_tone" s_fits_tone (He.ga K "fits_tone") fd ∧ mg "fits_tone" = some (.ref (He.ga K "fits_tone"))
  d_fits_pipes : ∃ fd, FnP K "fits_pipes" s_fits_pipes (He.ga K "fits_pipes") fd ∧ mg "fits_pipes" = some (.ref (He.ga K "fits_pipes"))
  d_need_pipes : ∃ fd, FnP K "need_pipes" s_need_pipes (He.ga K "need_pipes") fd ∧ mg "need_pipes" = some (.ref (He.ga K "need_pipes"))
  d_with_pipes : ∃ fd, FnP K "with_pipes" s_with_pipes (He.ga K "with_pipes") fd ∧ mg "with_pipes" = some (.ref (He.ga K "with_pipes"))
  d_fits_tune : ∃ fd, FnP K "fits_tune" s_fits_tune (He.ga K "fits_tune") fd ∧ mg "fits_tune" = some (.ref (He.ga K "fits_tune"))
  d_need_tune : ∃ fd, FnP K "need_tune" s_need_tune (He.ga K "need_tune") fd ∧ mg "need_tune" = some (.ref (He.ga K "need_tune"))
  d_need_both : ∃ fd, FnP K "need_both" s_need_both (He.ga K "need_both") fd ∧ mg "need_both" = some (.ref (He.ga K "need_both"))
  d_can_in : ∃ fd, FnP K "can_in" s_can_in (He.ga K "can_in") fd ∧ mg "can_in" = some (.ref (He.ga K "can_in"))
  d_can_play : ∃ fd, FnP K "can_play" s_can_play (He.ga K "can_play") fd ∧ mg "can_play" = some (.ref (He.ga K "can_play"))
  d_lacks_in : ∃ fd, FnP K "lacks_in" s_lacks_in (He.ga K "lacks_in") fd ∧ mg "lacks_in" = some (.ref (He.ga K "lacks_in"))
  d_lacking : ∃ fd, FnP K "lacking" s_lacking (He.ga K "lacking") fd ∧ mg "lacking" = some (.ref (He.ga K "lacking"))
  d_lost_places : ∃ fd, FnP K "lost_places" s_lost_places (He.ga K "lost_places") fd ∧ mg "lost_places" = some (.ref (He.ga K "lost_places"))
  d_moved : ∃ fd, FnP K "moved" s_moved (He.ga K "moved") fd ∧ mg "moved" = some (.ref (He.ga K "moved"))
  d_shifted_pipes : ∃ fd, FnP K "shifted_pipes" s_shifted_pipes (He.ga K "shifted_pipes") fd ∧ mg "shifted_pipes" = some (.ref (He.ga K "shifted_pipes"))
  d_is_pipes : ∃ fd, FnP K "is_pipes" s_is_pipes (He.ga K "is_pipes") fd ∧ mg "is_pipes" = some (.ref (He.ga K "is_pipes"))
  d_longest_played : ∃ fd, FnP K "longest_played" s_longest_played (He.ga K "longest_played") fd ∧ mg "longest_played" = some (.ref (He.ga K "longest_played"))
  d_turn_counts : ∃ fd, FnP K "turn_counts" s_turn_counts (He.ga K "turn_counts") fd ∧ mg "turn_counts" = some (.ref (He.ga K "turn_counts"))
  d_idle_pipes : ∃ fd, FnP K "idle_pipes" s_idle_pipes (He.ga K "idle_pipes") fd ∧ mg "idle_pipes" = some (.ref (He.ga K "idle_pipes"))
  d_law : ∃ fd, FnP K "law" s_law (He.ga K "law") fd ∧ mg "law" = some (.ref (He.ga K "law"))
section
variable {P : Program} {w : World} {K : PySem.W.Frag} {mg : Str → Option Value} {base : Heap}
/-! _law_cup -/
theorem sc__law_cup : FnScope ["script", "cell"] ["script"] (defScope s__law_cup) := ⟨rfl, rfl, rfl, by decide +kernel, rfl, by decide +kernel, by decide +kernel⟩
def t1__law_cup : Addr → List Int → DS := fun a ns => (dSet 1 (dArgs gAbs (dCons (dBin gIx (dBin gAdd (dScript 0 a ns) (dLst (dCons (dC (.int 0)) dNil))) (dC (.int 0))) dNil)))
def t2__law_cup : DW (List D) := (dLstF (dCons (dIf (dB (dBin gGe (dVar 1) (dBin gPow (dC (.int 10)) (dC (.int 18))))) (dBin gFdiv (dVar 1) (dC (.int 131))) (dC (.int 0))) (dCons (dBin gAdd (dBin gMod (dArgs gInt (dCons (dBin gAdd (dBin gMul (dVar 1) (dC (.int 349))) (dC (.int 4049))) dNil)) (dC (.int 2077502527))) (dC (.int 241))) dNil)))
theorem p__law_cup : ∀ a ns, ns.length ≤ 63 → t1__law_cup a ns ⟨fun ρ => t2__law_cup ρ (fun ds => ∃ x y, ds = [.int x, .int y] ∧ CupOk x y) (fun _ => False), fun _ => False, fun _ => False, fun _ => False, fun _ _ => False⟩ (start' 2 false [.ref a]) := by
  intro a ns hl
  have key : ∀ c : Int, 0 ≤ c → t2__law_cup [.im (.ref a), .im (.int c)] (fun ds => ∃ x y, ds = [.int x, .int y] ∧ CupOk x y) (fun _ => False) := by
    intro c hc
    simp [t2__law_cup, dRet, dSeq, dIfS, dSet, dSetF, dDrop, dCall, dCallC, dArgs, dOn, dCons, dNil, dVar, dC, dBin, dChain, dUn, dAnd, dOr, dNot, dB, dAndT, dOrT, dNotT, dIf, dTup, dLst, dLstF, dFz, dItems, itemsD, dRg1, dRg2, dEnum, dZip, gZip, dCupGet, dCupSet, dNext, dRetN, dRaise, ends, start', nV, gI, gI0, DL.gSub, gMul, gFdiv, gMod, gPow, gAdd, gNeg, gLt, gLe, gGt, gGe, gEq, gNe, gIn, negB, gIs, isNonD, gIx, dIsi, isTy, tyD, gLen, gAbs, gInt, gTupL, gLenL, gSumL, gTuple, dComp, noOwn, S.own, CDiv, CMul, CPow, eqvD_int, eqvD_tup, eqvD_lst, okD_int, okD_tup, okD_lst, okD_tup0, okD_lst0, eqvD_tup0, eqvD_lst0, inF_int, flatD, flat_ints, imap_inj, and_assoc, exists_eq_left, exists_eq_left', dSl, dNoPart, dPart, gSl, gStr, CupOk, sizeLine_eq]
    omega
  have hs : ns.length + 1 ≤ sizeLine := by rw [sizeLine_eq]; omega
  cases ns with
  | nil =>
    simp [t1__law_cup, dRet, dSeq, dIfS, dSet, dSetF, dDrop, dCall, dCallC, dArgs, dOn, dCons, dNil, dVar, dC, dBin, dChain, dUn, dAnd, dOr, dNot, dB, dAndT, dOrT, dNotT, dIf, dTup, dLst, dLstF, dFz, dItems, itemsD, dRg1, dRg2, dEnum, dZip, gZip, dCupGet, dCupSet, dNext, dRetN, dRaise, ends, start', nV, gI, gI0, DL.gSub, gMul, gFdiv, gMod, gPow, gAdd, gNeg, gLt, gLe, gGt, gGe, gEq, gNe, gIn, negB, gIs, isNonD, gIx, dIsi, isTy, tyD, gLen, gAbs, gInt, gTupL, gLenL, gSumL, gTuple, dComp, noOwn, S.own, CDiv, CMul, CPow, eqvD_int, eqvD_tup, eqvD_lst, okD_int, okD_tup, okD_lst, okD_tup0, okD_lst0, eqvD_tup0, eqvD_lst0, inF_int, flatD, flat_ints, imap_inj, and_assoc, exists_eq_left, exists_eq_left', dSl, dNoPart, dPart, gSl, gStr, dScript, sizeLine_eq, L2.atI, L2.ixN]
    exact key 0 (by omega)
  | cons n r =>
    simp [t1__law_cup, dRet, dSeq, dIfS, dSet, dSetF, dDrop, dCall, dCallC, dArgs, dOn, dCons, dNil, dVar, dC, dBin, dChain, dUn, dAnd, dOr, dNot, dB, dAndT, dOrT, dNotT, dIf, dTup, dLst, dLstF, dFz, dItems, itemsD, dRg1, dRg2, dEnum, dZip, gZip, dCupGet, dCupSet, dNext, dRetN, dRaise, ends, start', nV, gI, gI0, DL.gSub, gMul, gFdiv, gMod, gPow, gAdd, gNeg, gLt, gLe, gGt, gGe, gEq, gNe, gIn, negB, gIs, isNonD, gIx, dIsi, isTy, tyD, gLen, gAbs, gInt, gTupL, gLenL, gSumL, gTuple, dComp, noOwn, S.own, CDiv, CMul, CPow, eqvD_int, eqvD_tup, eqvD_lst, okD_int, okD_tup, okD_lst, okD_tup0, okD_lst0, eqvD_tup0, eqvD_lst0, inF_int, flatD, flat_ints, imap_inj, and_assoc, exists_eq_left, exists_eq_left', dSl, dNoPart, dPart, gSl, gStr, dScript, atI0]
    rw [List.length_cons] at hs hl
    have := sizeLine_eq
    refine ⟨by omega, by omega, key _ (by split <;> omega)⟩
theorem h__law_cup (T : Top K mg) : HasCup P w K mg base 1 "_law_cup" := by
  obtain ⟨fd, Fd, hm⟩ := T.d__law_cup
  exact cup_ok (t1 := t1__law_cup) (t2 := t2__law_cup) hm Fd sc__law_cup (fun _ _ _ _ _ _ us hl => match us, hl with | [_], _ => rfl) (fun cd A outer s H E F a ns hF hS hl B => ⟨(s_set 1 sc__law_cup.nd rfl (by first | exact Or.inl rfl | exact Or.inr rfl) (e_callB call_abs cd_abs rfl T.m_abs (by decide +kernel) (a_cons (e_ix (e_bin opr_add opd_add (e_script 0 hF hS hl rfl T.m_list) (e_lst (a_cons e_int a_nil))) e_int) a_nil))),
    (f_lst (a_cons (e_if (t_cmp op_ge opd_B0 (e_var 1) (e_bin op_pow opd_I e_int e_int) rfl) (e_bin op_fdiv opd_I (e_var 1) e_int) e_int) (a_cons (e_bin opr_add opd_add (e_bin op_mod opd_I (e_callTy call_int1 cd_int rfl T.m_int (by decide +kernel) (a_cons (e_bin opr_add opd_add (e_bin op_mul opd_I (e_var 1) e_int) e_int) a_nil)) e_int) e_int) a_nil)))⟩) p__law_cup
/-! _law_roll -/
theorem sc__law_roll : FnScope ["cup", "many", "found", "deep"] ["cup", "many"] (defScope s__law_roll) := ⟨rfl, rfl, rfl, by decide +kernel, rfl, by decide +kernel, by decide +kernel⟩
def t__law_roll : DS := (dSeq (dIfS (dB (dBin gGt (dCupGet 0 0) (dC (.int 0)))) (dSeq (dSet 2 (dBin gMod (dArgs gInt (dCons (dCupGet 0 0) dNil)) (dVar 1)))
  (dSeq (dCupSet 0 0 (dBin gFdiv (dCupGet 0 0) (dVar 1)))
  (dRet (dVar 2)))) dNext)
  (dSeq (dCupSet 0 1 (dBin gMod (dArgs gInt (dCons (dBin gAdd (dBin gMul (dCupGet 0 1) (dC (.int 31069))) (dC (.int 8061))) dNil)) (dC (.int 2147483529))))
  (dSeq (dSet 3 (dBin gMod (dArgs gInt (dCons (dBin gMul (dCupGet 0 1) (dBin gAdd (dCupGet 0 1) (dC (.int 331)))) dNil)) (dC (.int 2147483059))))
  (dRet (dBin gMod (dArgs gInt (dCons (dBin gFdiv (dVar 3) (dC (.int 853))) dNil)) (dVar 1))))))
def f__law_roll : Φ := fun ds R _ => ∃ n : Int, ds = [.int n] ∧ 0 < n ∧ n < 1073741824 ∧ ∀ r, 0 ≤ r → r < n → R (.int r)
theorem len__law_roll : ∀ ds R Z, f__law_roll ds R Z → nV true ds = 2 := by rintro ds R Z ⟨n, rfl, _⟩; rfl
theorem p__law_roll : ∀ ds R Z, f__law_roll ds R Z → t__law_roll (ends R Z) (start' 4 true ds) := by
  rintro ds R Z ⟨n, rfl, h1, h2, h⟩
  simp [t__law_roll, dRet, dSeq, dIfS, dSet, dSetF, dDrop, dCall, dCallC, dArgs, dOn, dCons, dNil, dVar, dC, dBin, dChain, dUn, dAnd, dOr, dNot, dB, dAndT, dOrT, dNotT, dIf, dTup, dLst, dLstF, dFz, dItems, itemsD, dRg1, dRg2, dEnum, dZip, gZip, dCupGet, dCupSet, dNext, dRetN, dRaise, ends, start', nV, gI, gI0, DL.gSub, gMul, gFdiv, gMod, gPow, gAdd, gNeg, gLt, gLe, gGt, gGe, gEq, gNe, gIn, negB, gIs, isNonD, gIx, dIsi, isTy, tyD, gLen, gAbs, gInt, gTupL, gLenL, gSumL, gTuple, dComp, noOwn, S.own, CDiv, CMul, CPow, eqvD_int, eqvD_tup, eqvD_lst, okD_int, okD_tup, okD_lst, okD_tup0, okD_lst0, eqvD_tup0, eqvD_lst0, inF_int, flatD, flat_ints, imap_inj, and_assoc, exists_eq_left, exists_eq_left', dSl, dNoPart, dPart, gSl, gStr, CupC]
  intro z hz
  split
  · intro z hz
    refine ⟨h1, fun z1 hz1 => ⟨h1, h2, Int.ediv_nonneg hz1 (by omega), h _ (Int.emod_nonneg _ (by omega)) (Int.emod_lt_of_pos _ h1)⟩⟩
  · intro z hz hz'
    refine ⟨by omega, by omega, fun z hz hz' z1 hz1 hz1' => ⟨.inl ⟨by omega, by omega⟩, h1, h _ (Int.emod_nonneg _ (by omega)) (Int.emod_lt_of_pos _ h1)⟩⟩
theorem h__law_roll (T : Top K mg) : Has P w K mg base 1 "_law_roll" ["cup", "many"] true f__law_roll := by
  obtain ⟨fd, Fd, hm⟩ := T.d__law_roll
  exact D_has (k := 0) (N := ["cup", "many", "found", "deep"]) (t := t__law_roll) hm Fd sc__law_roll (fun _ _ _ _ _ _ us hl => match us, hl with | [_, _], _ => rfl) (fun cd A outer s H E F B => (ss_cons (s_if (t_cmp op_gt opd_B0 (e_cup 0) e_int rfl) (ss_cons (s_set 2 sc__law_roll.nd rfl (by first | exact Or.inl rfl | exact Or.inr rfl) (e_bin op_mod opd_I (e_callTy call_int1 cd_int rfl T.m_int (by decide +kernel) (a_cons (e_cup 0) a_nil)) (e_var 1)))
    (ss_cons (s_cup 0 (e_bin op_fdiv opd_I (e_cup 0) (e_var 1)))
    (ss_one (s_ret (e_var 2))))) ss_nil)
    (ss_cons (s_cup 0 (e_bin op_mod opd_I (e_callTy call_int1 cd_int rfl T.m_int (by decide +kernel) (a_cons (e_bin opr_add opd_add (e_bin op_mul opd_I (e_cup 0) e_int) e_int) a_nil)) e_int))
    (ss_cons (s_set 3 sc__law_roll.nd rfl (by first | exact Or.inl rfl | exact Or.inr rfl) (e_bin op_mod opd_I (e_callTy call_int1 cd_int rfl T.m_int (by decide +kernel) (a_cons (e_bin op_mul opd_I (e_cup 0) (e_bin opr_add opd_add (e_cup 0) e_int)) a_nil)) e_int))
    (ss_one (s_ret (e_bin op_mod opd_I (e_callTy call_int1 cd_int rfl T.m_int (by decide +kernel) (a_cons (e_bin op_fdiv opd_I (e_var 3) e_int) a_nil)) (e_var 1)))))))) len__law_roll p__law_roll
/-! _law_pipes -/
theorem sc__law_pipes : FnScope ["cup", "many", "found", "pipe"] ["cup", "many"] (defScope s__law_pipes) := ⟨rfl, rfl, rfl, by decide +kernel, rfl, by decide +kernel, by decide +kernel⟩
def t__law_pipes : DS := (dSeq (dNewK 2)
  (dSeq (dFor (dRg1 (dCallC 0 f__law_roll (dCons (dBin gAdd (dVar 1) (dC (.int 1))) dNil))) (.nm 3) (dPutK 2 (dBin gSub (dCallC 0 f__law_roll (dCons (dC (.int 25)) dNil)) (dC (.int 8))) (dC (.bl true))))
  (dRet (dArgs gTuple (dCons (dSortK (dOwnK 2)) dNil)))))
def f__law_pipes : Φ := fun ds R _ => ∃ many : Int, ds = [.int many] ∧ 0 ≤ many ∧ many ≤ 1000 ∧ ∀ ns : List Int, (ns.length : Int) ≤ many → (∀ n ∈ ns, -8 ≤ n ∧ n ≤ 16) → ns.Pairwise (· < ·) → R (iT ns)
theorem len__law_pipes : ∀ ds R Z, f__law_pipes ds R Z → nV true ds = 2 := by rintro ds R Z ⟨ps, rfl, _⟩; rfl
theorem p__law_pipes : ∀ ds R Z, f__law_pipes ds R Z → t__law_pipes (ends R Z) (start' 4 true ds) := by
  rintro ds R Z ⟨many, rfl, h1, h2, h⟩
  simp [t__law_pipes, f__law_roll, dRet, dSeq, dIfS, dSet, dSetF, dDrop, dCall, dCallC, dArgs, dOn, dCons, dNil, dVar, dC, dBin, dChain, dUn, dAnd, dOr, dNot, dB, dAndT, dOrT, dNotT, dIf, dTup, dLst, dLstF, dFz, dItems, itemsD, dRg1, dRg2, dEnum, dZip, gZip, dCupGet, dCupSet, dNext, dRetN, dRaise, ends, start', nV, gI, gI0, DL.gSub, gMul, gFdiv, gMod, gPow, gAdd, gNeg, gLt, gLe, gGt, gGe, gEq, gNe, gIn, negB, gIs, isNonD, gIx, dIsi, isTy, tyD, gLen, gAbs, gInt, gTupL, gLenL, gSumL, gTuple, dComp, noOwn, S.own, CDiv, CMul, CPow, eqvD_int, eqvD_tup, eqvD_lst, okD_int, okD_tup, okD_lst, okD_tup0, okD_lst0, eqvD_tup0, eqvD_lst0, inF_int, flatD, flat_ints, imap_inj, and_assoc, exists_eq_left, exists_eq_left', dSl, dNoPart, dPart, gSl, gStr, dFor, dNewK]
  refine ⟨by omega, by omega, fun r hr0 hr1 => ⟨by omega, by omega, ?_⟩⟩
  refine forD_inv (fun n ρ => ∃ (ks : List Int) (vs : List D) (x : S), ρ = [S.cup, S.im (D.int many), S.ok (ks.map Sum.inl) vs, x] ∧ ks.Nodup ∧ ks.length ≤ n ∧ ∀ k ∈ ks, -8 ≤ k ∧ k ≤ 16) _ 0 _ ⟨[], [], .un, rfl, by simp, by simp, by simp⟩ (fun i d ρ hd hI K1 hK => ?_) (fun ρ hI => ?_)
  · obtain ⟨ks, vs, x, rfl, nd, hl, hb⟩ := hI
    obtain ⟨hi, _⟩ := rgD_get hd
    simp [bindT, dRet, dSeq, dIfS, dSet, dSetF, dDrop, dCall, dCallC, dArgs, dOn, dCons, dNil, dVar, dC, dBin, dChain, dUn, dAnd, dOr, dNot, dB, dAndT, dOrT, dNotT, dIf, dTup, dLst, dLstF, dFz, dItems, itemsD, dRg1, dRg2, dEnum, dZip, gZip, dCupGet, dCupSet, dNext, dRetN, dRaise, ends, start', nV, gI, gI0, DL.gSub, gMul, gFdiv, gMod, gPow, gAdd, gNeg, gLt, gLe, gGt, gGe, gEq, gNe, gIn, negB, gIs, isNonD, gIx, dIsi, isTy, tyD, gLen, gAbs, gInt, gTupL, gLenL, gSumL, gTuple, dComp, noOwn, S.own, CDiv, CMul, CPow, eqvD_int, eqvD_tup, eqvD_lst, okD_int, okD_tup, okD_lst, okD_tup0, okD_lst0, eqvD_tup0, eqvD_lst0, inF_int, flatD, flat_ints, imap_inj, and_assoc, exists_eq_left, exists_eq_left', dSl, dNoPart, dPart, gSl, gStr, dPutK, f__law_roll, keyD, sizeLine_eq]
    intro q h0 h1
    refine ⟨by omega, hK _ ⟨addU ks (q - 8), _, _, by rw [kput_ints], addU_nodup nd, ?_, fun k hk => ?_⟩⟩
    · have := addU_length ks (q - 8); omega
    · rcases mem_addU.mp hk with hk | hk
      · exact hb k hk
      · omega
  · obtain ⟨ks, vs, x, rfl, nd, hl, hb⟩ := hI
    rw [rgD_length] at hl
    simp [dRet, dSeq, dIfS, dSet, dSetF, dDrop, dCall, dCallC, dArgs, dOn, dCons, dNil, dVar, dC, dBin, dChain, dUn, dAnd, dOr, dNot, dB, dAndT, dOrT, dNotT, dIf, dTup, dLst, dLstF, dFz, dItems, itemsD, dRg1, dRg2, dEnum, dZip, gZip, dCupGet, dCupSet, dNext, dRetN, dRaise, ends, start', nV, gI, gI0, DL.gSub, gMul, gFdiv, gMod, gPow, gAdd, gNeg, gLt, gLe, gGt, gGe, gEq, gNe, gIn, negB, gIs, isNonD, gIx, dIsi, isTy, tyD, gLen, gAbs, gInt, gTupL, gLenL, gSumL, gTuple, dComp, noOwn, S.own, CDiv, CMul, CPow, eqvD_int, eqvD_tup, eqvD_lst, okD_int, okD_tup, okD_lst, okD_tup0, okD_lst0, eqvD_tup0, eqvD_lst0, inF_int, flatD, flat_ints, imap_inj, and_assoc, exists_eq_left, exists_eq_left', dSl, dNoPart, dPart, gSl, gStr, dSortK, dOwnK]
    have inj : ∀ a b : List Int, (a.map (Sum.inl : Int → Key) = b.map Sum.inl) → a = b := fun a b h => by
      have := congrArg (List.map fun k : Key => match k with | .inl z => z | .inr _ => 0) h
      simpa [List.map_map, Function.comp_def] using this
    refine ⟨ks, rfl, by rw [sizeLine_eq]; omega, ?_⟩
    rw [sortI_U nd]
    have lu := sortU_len ks
    exact h (sortU ks) (by omega) (fun n hn => hb n (mem_sortU.mp hn)) (sortU_asc ks)
theorem h__law_pipes (T : Top K mg) : Has P w K mg base 2 "_law_pipes" ["cup", "many"] true f__law_pipes := by
  obtain ⟨fd, Fd, hm⟩ := T.d__law_pipes
  have h__law_roll := h__law_roll (P := P) (w := w) (base := base) T
  exact D_has (k := 1) (N := ["cup", "many", "found", "pipe"]) (t := t__law_pipes) hm Fd sc__law_pipes (fun _ _ _ _ _ _ us hl => match us, hl with | [_, _], _ => rfl) (fun cd A outer s H E F B => (ss_cons (s_newK 2 sc__law_pipes.nd rfl (by first | exact Or.inl rfl | exact Or.inr rfl))
    (ss_cons (s_for (tgt := (.nm 3)) B.own B.toBd.calm (i_rg1 rfl T.m_range (e_hC 0 h__law_roll B.toBd (by decide) rfl (a_cons (e_bin opr_add opd_add (e_var 1) e_int) a_nil))) (gt_nm 3) (pg_name sc__law_pipes.nd rfl (by first | exact Or.inl rfl | exact Or.inr rfl)) (ss_one (s_putK 2 B.toBd.u (e_bin op_sub opd_I0 (e_hC 0 h__law_roll B.toBd (by decide) rfl (a_cons e_int a_nil)) e_int) e_bl)))
    (ss_one (s_ret (e_callTy call_tupleF cd_tuple rfl T.m_tuple (by decide +kernel) (a_cons (e_sortK B.toBd.calm rfl T.m_sorted (k_own 2)) a_nil))))))) len__law_pipes p__law_pipes
/-! _law_tune -/
theorem sc__law_tune : FnScope ["cup", "many", "high", "low", "tone"] ["cup", "many", "high"] (defScope s__law_tune) := ⟨rfl, rfl, rfl, by decide +kernel, rfl, by decide +kernel, by decide +kernel⟩
def t__law_tune : DS := (dSeq (dSet 3 (dBin gSub (dCallC 0 f__law_roll (dCons (dC (.int 21)) dNil)) (dC (.int 10))))
  (dRet (dOn gTupL (dComp (dRg1 (dCallC 0 f__law_roll (dCons (dBin gAdd (dVar 1) (dC (.int 1))) dNil))) (.nm 4) dYes (dBin gAdd (dVar 3) (dCallC 0 f__law_roll (dCons (dBin gAdd (dVar 2) (dC (.int 1))) dNil))) [4]))))
def f__law_tune : Φ := fun ds R _ => ∃ many high : Int, ds = [.int many, .int high] ∧ 0 ≤ many ∧ many ≤ 1000 ∧ 0 ≤ high ∧ high ≤ 1000 ∧ ∀ ns : List Int, (ns.length : Int) ≤ many → (∀ n ∈ ns, -10 ≤ n ∧ n ≤ 10 + high) → R (iT ns)
theorem len__law_tune : ∀ ds R Z, f__law_tune ds R Z → nV true ds = 3 := by rintro ds R Z ⟨ps, ns, rfl, _⟩; rfl
theorem p__law_tune : ∀ ds R Z, f__law_tune ds R Z → t__law_tune (ends R Z) (start' 5 true ds) := by
  rintro ds R Z ⟨many, high, rfl, h1, h2, h3, h4, h⟩
  simp [t__law_tune, f__law_roll, dRet, dSeq, dIfS, dSet, dSetF, dDrop, dCall, dCallC, dArgs, dOn, dCons, dNil, dVar, dC, dBin, dChain, dUn, dAnd, dOr, dNot, dB, dAndT, dOrT, dNotT, dIf, dTup, dLst, dLstF, dFz, dItems, itemsD, dRg1, dRg2, dEnum, dZip, gZip, dCupGet, dCupSet, dNext, dRetN, dRaise, ends, start', nV, gI, gI0, DL.gSub, gMul, gFdiv, gMod, gPow, gAdd, gNeg, gLt, gLe, gGt, gGe, gEq, gNe, gIn, negB, gIs, isNonD, gIx, dIsi, isTy, tyD, gLen, gAbs, gInt, gTupL, gLenL, gSumL, gTuple, dComp, noOwn, S.own, CDiv, CMul, CPow, eqvD_int, eqvD_tup, eqvD_lst, okD_int, okD_tup, okD_lst, okD_tup0, okD_lst0, eqvD_tup0, eqvD_lst0, inF_int, flatD, flat_ints, imap_inj, and_assoc, exists_eq_left, exists_eq_left', dSl, dNoPart, dPart, gSl, gStr]
  intro r hr0 hr1
  refine ⟨by omega, by omega, fun m hm0 hm1 => ⟨by omega, by omega, ?_⟩⟩
  refine compD_some (fun d => ∃ z : Int, d = .int z ∧ -10 ≤ z ∧ z ≤ 10 + high) (fun d hd K1 k => ?_) fun ys hl hy => ?_
  · simp [bindT, wipeS, dRet, dSeq, dIfS, dSet, dSetF, dDrop, dCall, dCallC, dArgs, dOn, dCons, dNil, dVar, dC, dBin, dChain, dUn, dAnd, dOr, dNot, dB, dAndT, dOrT, dNotT, dIf, dTup, dLst, dLstF, dFz, dItems, itemsD, dRg1, dRg2, dEnum, dZip, gZip, dCupGet, dCupSet, dNext, dRetN, dRaise, ends, start', nV, gI, gI0, DL.gSub, gMul, gFdiv, gMod, gPow, gAdd, gNeg, gLt, gLe, gGt, gGe, gEq, gNe, gIn, negB, gIs, isNonD, gIx, dIsi, isTy, tyD, gLen, gAbs, gInt, gTupL, gLenL, gSumL, gTuple, dComp, noOwn, S.own, CDiv, CMul, CPow, eqvD_int, eqvD_tup, eqvD_lst, okD_int, okD_tup, okD_lst, okD_tup0, okD_lst0, eqvD_tup0, eqvD_lst0, inF_int, flatD, flat_ints, imap_inj, and_assoc, exists_eq_left, exists_eq_left', dSl, dNoPart, dPart, gSl, gStr, f__law_roll]
    exact ⟨by omega, by omega, fun q h0 h1 => k _ ⟨_, rfl, by omega, by omega⟩⟩
  · rw [rgD_length] at hl
    obtain ⟨zs, rfl⟩ : ∃ zs : List Int, ys = iL zs := by
      clear hl
      induction ys with
      | nil => exact ⟨[], rfl⟩
      | cons y ys ih =>
        obtain ⟨z, rfl, _⟩ := hy y List.mem_cons_self
        obtain ⟨zs, rfl⟩ := ih fun y hy' => hy y (List.mem_cons_of_mem _ hy')
        exact ⟨z :: zs, rfl⟩
    refine h zs (by simp at hl; omega) fun n hn => ?_
    obtain ⟨z, e, h5, h6⟩ := hy (.int n) (List.mem_map_of_mem hn)
    cases e
    exact ⟨h5, h6⟩
theorem h__law_tune (T : Top K mg) : Has P w K mg base 2 "_law_tune" ["cup", "many", "high"] true f__law_tune := by
  obtain ⟨fd, Fd, hm⟩ := T.d__law_tune
  have h__law_roll := h__law_roll (P := P) (w := w) (base := base) T
  exact D_has (k := 1) (N := ["cup", "many", "high", "low", "tone"]) (t := t__law_tune) hm Fd sc__law_tune (fun _ _ _ _ _ _ us hl => match us, hl with | [_, _, _], _ => rfl) (fun cd A outer s H E F B => (ss_cons (s_set 3 sc__law_tune.nd rfl (by first | exact Or.inl rfl | exact Or.inr rfl) (e_bin op_sub opd_I0 (e_hC 0 h__law_roll B.toBd (by decide) rfl (a_cons e_int a_nil)) e_int))
    (ss_one (s_ret (e_onLTy call_tupleF cl_tuple rfl T.m_tuple (by decide +kernel) (l_ofF (f_comp (tgt := (.nm 4)) [("tone", 4)] B.toBd sc__law_tune.nd (by kernel_rfl) (by rfl) (i_rg1 rfl T.m_range (e_hC 0 h__law_roll B.toBd (by decide) rfl (a_cons (e_bin opr_add opd_add (e_var 1) e_int) a_nil))) (gt_nm 4) (fun _ _ _ _ _ => (pg_name sc__law_tune.nd rfl (by first | exact Or.inl rfl | exact Or.inr rfl))) (fun _ _ _ _ _ => ts_nil) (fun _ _ _ _ _ => (e_bin opr_add opd_add (e_var 3) (e_hC 0 h__law_roll B.toBd.blk (by decide) rfl (a_cons (e_bin opr_add opd_add (e_var 2) e_int) a_nil))))))))))) len__law_tune p__law_tune
/-! _law_some -/
theorem sc__law_some : FnScope ["cup", "things"] ["cup", "things"] (defScope s__law_some) := ⟨rfl, rfl, rfl, by decide +kernel, rfl, by decide +kernel, by decide +kernel⟩
def t__law_some : DS := (dRet (dBin gIx (dVar 1) (dCallC 0 f__law_roll (dCons (dArgs gLen (dCons (dVar 1) dNil)) dNil))))
def f__law_some : Φ := fun ds R _ => ∃ (d : D) (xs : List D), ds = [d] ∧ itemsD d = some xs ∧ 0 < xs.length ∧ xs.length < 1073741824 ∧ ∀ x ∈ xs, R x
theorem len__law_some : ∀ ds R Z, f__law_some ds R Z → nV true ds = 2 := by rintro ds R Z ⟨d, xs, rfl, _⟩; rfl
theorem p__law_some : ∀ ds R Z, f__law_some ds R Z → t__law_some (ends R Z) (start' 2 true ds) := by
  rintro ds R Z ⟨d, xs, rfl, hi, h1, h2, h⟩
  cases d <;> first
    | (cases hi; done)
    | (simp only [itemsD, Option.some.injEq] at hi
       subst hi
       simp [t__law_some, f__law_roll, dRet, dSeq, dIfS, dSet, dSetF, dDrop, dCall, dCallC, dArgs, dOn, dCons, dNil, dVar, dC, dBin, dChain, dUn, dAnd, dOr, dNot, dB, dAndT, dOrT, dNotT, dIf, dTup, dLst, dLstF, dFz, dItems, itemsD, dRg1, dRg2, dEnum, dZip, gZip, dCupGet, dCupSet, dNext, dRetN, dRaise, ends, start', nV, gI, gI0, DL.gSub, gMul, gFdiv, gMod, gPow, gAdd, gNeg, gLt, gLe, gGt, gGe, gEq, gNe, gIn, negB, gIs, isNonD, gIx, dIsi, isTy, tyD, gLen, gAbs, gInt, gTupL, gLenL, gSumL, gTuple, dComp, noOwn, S.own, CDiv, CMul, CPow, eqvD_int, eqvD_tup, eqvD_lst, okD_int, okD_tup, okD_lst, okD_tup0, okD_lst0, eqvD_tup0, eqvD_lst0, inF_int, flatD, flat_ints, imap_inj, and_assoc, exists_eq_left, exists_eq_left', dSl, dNoPart, dPart, gSl, gStr]
       refine ⟨by omega, by omega, fun r h0 hr => ?_⟩
       obtain ⟨x, hx, e⟩ := atI_mem h0 hr
       exact ⟨x, e, h x hx⟩)
theorem h__law_some (T : Top K mg) : Has P w K mg base 2 "_law_some" ["cup", "things"] true f__law_some := by
  obtain ⟨fd, Fd, hm⟩ := T.d__law_some
  have h__law_roll := h__law_roll (P := P) (w := w) (base := base) T
  exact D_has (k := 1) (N := ["cup", "things"]) (t := t__law_some) hm Fd sc__law_some (fun _ _ _ _ _ _ us hl => match us, hl with | [_, _], _ => rfl) (fun cd A outer s H E F B => (ss_one (s_ret (e_ix (e_var 1) (e_hC 0 h__law_roll B.toBd (by decide) rfl (a_cons (e_callB call_len cd_len rfl T.m_len (by decide +kernel) (a_cons (e_var 1) a_nil)) a_nil)))))) len__law_some p__law_some
/-! _law_same -/
theorem sc__law_same : FnScope ["told", "due", "at"] ["told", "due"] (defScope s__law_same) := ⟨rfl, rfl, rfl, by decide +kernel, rfl, by decide +kernel, by decide +kernel⟩
def t__law_same (φ : Φ) : DS := (dSeq (dIfS (dB (dIsi "tuple" (dVar 1))) (dSeq (dIfS (dOrT (dNotT (dB (dIsi "tuple" (dVar 0)))) (dB (dBin gNe (dArgs gLen (dCons (dVar 0) dNil)) (dArgs gLen (dCons (dVar 1) dNil))))) (dRet (dC (.bl false))) dNext)
  (dRet (dOn gAll (dComp (dRg1 (dArgs gLen (dCons (dVar 1) dNil))) (.nm 2) dYes (dCall φ (dCons (dBin gIx (dVar 0) (dVar 2)) (dCons (dBin gIx (dVar 1) (dVar 2)) dNil))) [2])))) dNext)
  (dSeq (dIfS (dB (dBin gIs (dVar 1) (dC .non))) (dRet (dBin gIs (dVar 0) (dC .non))) dNext)
  (dSeq (dIfS (dB (dIsi "bool" (dVar 1))) (dRet (dIf (dB (dVar 1)) (dBin gIs (dVar 0) (dC (.bl true))) (dBin gIs (dVar 0) (dC (.bl false))))) dNext)
  (dSeq (dIfS (dB (dIsi "int" (dVar 1))) (dRet (dAnd (dIsi "int" (dVar 0)) (dAnd (dNot (dIsi "bool" (dVar 0))) (dBin gEq (dArgs gInt (dCons (dVar 0) dNil)) (dVar 1))))) dNext)
  (dRet (dAnd (dIsi "str" (dVar 0)) (dBin gEq (dArgs gStr (dCons (dVar 0) dNil)) (dVar 1))))))))
def sameOk : Nat → D → Prop
  | 0, _ => False
  | n + 1, .tup xs => xs.length ≤ 16777216 ∧ ∀ x ∈ xs, sameOk n x
  | _ + 1, .non => True
  | _ + 1, .bl _ => True
  | _ + 1, .int _ => True
  | _ + 1, .str x => PyData.strOk x = true
  | _, _ => False
def f__law_same : Nat → Φ := fun n ds R _ => ∃ d, ds = [d, d] ∧ sameOk n d ∧ R (.bl true)
theorem z__law_same : ∀ ds R Z, ¬ f__law_same 0 ds R Z := by rintro ds R Z ⟨d, _, h, _⟩; exact h
theorem len__law_same : ∀ n ds R Z, f__law_same n ds R Z → nV false ds = 2 := by rintro n ds R Z ⟨d, rfl, _⟩; rfl
theorem eqv_str (x : Str) : eqvD (.str x) (.str x) = true := by simp [eqvD, pyD, PyData.eqv]
theorem p__law_same : ∀ n ds R Z, f__law_same (n + 1) ds R Z → t__law_same (f__law_same n) (ends R Z) (start' 3 false ds) := by
  rintro n ds R Z ⟨d, rfl, hs, h⟩
  cases d with
  | tup xs =>
    obtain ⟨hl, hx⟩ := hs
    simp [t__law_same, dRet, dSeq, dIfS, dSet, dSetF, dDrop, dCall, dCallC, dArgs, dOn, dCons, dNil, dVar, dC, dBin, dChain, dUn, dAnd, dOr, dNot, dB, dAndT, dOrT, dNotT, dIf, dTup, dLst, dLstF, dFz, dItems, itemsD, dRg1, dRg2, dEnum, dZip, gZip, dCupGet, dCupSet, dNext, dRetN, dRaise, ends, start', nV, gI, gI0, DL.gSub, gMul, gFdiv, gMod, gPow, gAdd, gNeg, gLt, gLe, gGt, gGe, gEq, gNe, gIn, negB, gIs, isNonD, gIx, dIsi, isTy, tyD, gLen, gAbs, gInt, gTupL, gLenL, gSumL, gTuple, dComp, noOwn, S.own, CDiv, CMul, CPow, eqvD_int, eqvD_tup, eqvD_lst, okD_int, okD_tup, okD_lst, okD_tup0, okD_lst0, eqvD_tup0, eqvD_lst0, inF_int, flatD, flat_ints, imap_inj, and_assoc, exists_eq_left, exists_eq_left', dSl, dNoPart, dPart, gSl, gStr]
    refine ⟨by omega, ?_⟩
    unfold rgD
    refine compD_mapA _ (fun _ => .bl true) (fun i hi K1 k => ?_) ?_
    · have hi' : i < xs.length := by simpa using hi
      simp [bindT, dRet, dSeq, dIfS, dSet, dSetF, dDrop, dCall, dCallC, dArgs, dOn, dCons, dNil, dVar, dC, dBin, dChain, dUn, dAnd, dOr, dNot, dB, dAndT, dOrT, dNotT, dIf, dTup, dLst, dLstF, dFz, dItems, itemsD, dRg1, dRg2, dEnum, dZip, gZip, dCupGet, dCupSet, dNext, dRetN, dRaise, ends, start', nV, gI, gI0, DL.gSub, gMul, gFdiv, gMod, gPow, gAdd, gNeg, gLt, gLe, gGt, gGe, gEq, gNe, gIn, negB, gIs, isNonD, gIx, dIsi, isTy, tyD, gLen, gAbs, gInt, gTupL, gLenL, gSumL, gTuple, dComp, noOwn, S.own, CDiv, CMul, CPow, eqvD_int, eqvD_tup, eqvD_lst, okD_int, okD_tup, okD_lst, okD_tup0, okD_lst0, eqvD_tup0, eqvD_lst0, inF_int, flatD, flat_ints, imap_inj, and_assoc, exists_eq_left, exists_eq_left', dSl, dNoPart, dPart, gSl, gStr, wipeS, f__law_same]
      refine ⟨xs[i], atI_get' hi', xs[i], atI_get' hi', rfl, hx _ (List.getElem_mem hi'), k⟩
    · refine ⟨List.replicate (List.range ((xs.length : Int) - 0).toNat).length true, ?_, ?_⟩
      · rw [List.map_const', ← List.map_replicate, unBls_map]
      · simpa using h
  | non => simpa [t__law_same, dRet, dSeq, dIfS, dSet, dSetF, dDrop, dCall, dCallC, dArgs, dOn, dCons, dNil, dVar, dC, dBin, dChain, dUn, dAnd, dOr, dNot, dB, dAndT, dOrT, dNotT, dIf, dTup, dLst, dLstF, dFz, dItems, itemsD, dRg1, dRg2, dEnum, dZip, gZip, dCupGet, dCupSet, dNext, dRetN, dRaise, ends, start', nV, gI, gI0, DL.gSub, gMul, gFdiv, gMod, gPow, gAdd, gNeg, gLt, gLe, gGt, gGe, gEq, gNe, gIn, negB, gIs, isNonD, gIx, dIsi, isTy, tyD, gLen, gAbs, gInt, gTupL, gLenL, gSumL, gTuple, dComp, noOwn, S.own, CDiv, CMul, CPow, eqvD_int, eqvD_tup, eqvD_lst, okD_int, okD_tup, okD_lst, okD_tup0, okD_lst0, eqvD_tup0, eqvD_lst0, inF_int, flatD, flat_ints, imap_inj, and_assoc, exists_eq_left, exists_eq_left', dSl, dNoPart, dPart, gSl, gStr] using h
  | bl b => cases b <;> simpa [t__law_same, dRet, dSeq, dIfS, dSet, dSetF, dDrop, dCall, dCallC, dArgs, dOn, dCons, dNil, dVar, dC, dBin, dChain, dUn, dAnd, dOr, dNot, dB, dAndT, dOrT, dNotT, dIf, dTup, dLst, dLstF, dFz, dItems, itemsD, dRg1, dRg2, dEnum, dZip, gZip, dCupGet, dCupSet, dNext, dRetN, dRaise, ends, start', nV, gI, gI0, DL.gSub, gMul, gFdiv, gMod, gPow, gAdd, gNeg, gLt, gLe, gGt, gGe, gEq, gNe, gIn, negB, gIs, isNonD, gIx, dIsi, isTy, tyD, gLen, gAbs, gInt, gTupL, gLenL, gSumL, gTuple, dComp, noOwn, S.own, CDiv, CMul, CPow, eqvD_int, eqvD_tup, eqvD_lst, okD_int, okD_tup, okD_lst, okD_tup0, okD_lst0, eqvD_tup0, eqvD_lst0, inF_int, flatD, flat_ints, imap_inj, and_assoc, exists_eq_left, exists_eq_left', dSl, dNoPart, dPart, gSl, gStr] using h
  | int i => simpa [t__law_same, dRet, dSeq, dIfS, dSet, dSetF, dDrop, dCall, dCallC, dArgs, dOn, dCons, dNil, dVar, dC, dBin, dChain, dUn, dAnd, dOr, dNot, dB, dAndT, dOrT, dNotT, dIf, dTup, dLst, dLstF, dFz, dItems, itemsD, dRg1, dRg2, dEnum, dZip, gZip, dCupGet, dCupSet, dNext, dRetN, dRaise, ends, start', nV, gI, gI0, DL.gSub, gMul, gFdiv, gMod, gPow, gAdd, gNeg, gLt, gLe, gGt, gGe, gEq, gNe, gIn, negB, gIs, isNonD, gIx, dIsi, isTy, tyD, gLen, gAbs, gInt, gTupL, gLenL, gSumL, gTuple, dComp, noOwn, S.own, CDiv, CMul, CPow, eqvD_int, eqvD_tup, eqvD_lst, okD_int, okD_tup, okD_lst, okD_tup0, okD_lst0, eqvD_tup0, eqvD_lst0, inF_int, flatD, flat_ints, imap_inj, and_assoc, exists_eq_left, exists_eq_left', dSl, dNoPart, dPart, gSl, gStr] using h
  | str x => simpa [t__law_same, dRet, dSeq, dIfS, dSet, dSetF, dDrop, dCall, dCallC, dArgs, dOn, dCons, dNil, dVar, dC, dBin, dChain, dUn, dAnd, dOr, dNot, dB, dAndT, dOrT, dNotT, dIf, dTup, dLst, dLstF, dFz, dItems, itemsD, dRg1, dRg2, dEnum, dZip, gZip, dCupGet, dCupSet, dNext, dRetN, dRaise, ends, start', nV, gI, gI0, DL.gSub, gMul, gFdiv, gMod, gPow, gAdd, gNeg, gLt, gLe, gGt, gGe, gEq, gNe, gIn, negB, gIs, isNonD, gIx, dIsi, isTy, tyD, gLen, gAbs, gInt, gTupL, gLenL, gSumL, gTuple, dComp, noOwn, S.own, CDiv, CMul, CPow, eqvD_int, eqvD_tup, eqvD_lst, okD_int, okD_tup, okD_lst, okD_tup0, okD_lst0, eqvD_tup0, eqvD_lst0, inF_int, flatD, flat_ints, imap_inj, and_assoc, exists_eq_left, exists_eq_left', dSl, dNoPart, dPart, gSl, gStr, eqv_str, okD, SeqAt.shaped, pyD, PyData.canLay0, PyData.depth, show PyData.strOk x = true from hs] using h
  | _ => exact hs.elim
theorem h__law_same (T : Top K mg) : ∀ n, Has P w K mg base (n + 0) "_law_same" ["told", "due"] false (f__law_same n) := by
  obtain ⟨fd, Fd, hm⟩ := T.d__law_same
  exact D_rec (c := 0) (N := ["told", "due", "at"]) (t := t__law_same) z__law_same hm Fd sc__law_same (fun _ _ _ _ _ _ us hl => match us, hl with | [_, _], _ => rfl) (fun n h__law_same cd A outer s H E F B => (ss_cons (s_if (t_val (e_isi (T := "tuple") (by decide) rfl T.m_isinstance rfl T.m_tuple (by decide +kernel) (e_var 1))) (ss_cons (s_if (PW.pt (w_or (t_not (t_val (e_isi (T := "tuple") (by decide) rfl T.m_isinstance rfl T.m_tuple (by decide +kernel) (e_var 0)))) (w_or1 (t_cmp (op_neD B.toBd.u) opd_ne (e_callB call_len cd_len rfl T.m_len (by decide +kernel) (a_cons (e_var 0) a_nil)) (e_callB call_len cd_len rfl T.m_len (by decide +kernel) (a_cons (e_var 1) a_nil)) rfl)))) (ss_one (s_ret e_bl)) ss_nil)
    (ss_one (s_ret (e_onL (cr_all B.toBd.calm) cl_all rfl T.m_all (by decide +kernel) (l_ofF (f_comp (tgt := (.nm 2)) [("at", 2)] B.toBd sc__law_same.nd (by kernel_rfl) (by rfl) (i_rg1 rfl T.m_range (e_callB call_len cd_len rfl T.m_len (by decide +kernel) (a_cons (e_var 1) a_nil))) (gt_nm 2) (fun _ _ _ _ _ => (pg_name sc__law_same.nd rfl (by first | exact Or.inl rfl | exact Or.inr rfl))) (fun _ _ _ _ _ => ts_nil) (fun _ _ _ _ _ => (e_h h__law_same B.toBd.blk (by omega) rfl (a_cons (e_ix (e_var 0) (e_var 2)) (a_cons (e_ix (e_var 1) (e_var 2)) a_nil)))))))))) ss_nil)
    (ss_cons (s_if (t_cmp opr_is opd_is (e_var 1) e_non rfl) (ss_one (s_ret (e_cmp opr_is opd_is (e_var 0) e_non rfl))) ss_nil)
    (ss_cons (s_if (t_val (e_isi (T := "bool") (by decide) rfl T.m_isinstance rfl T.m_bool (by decide +kernel) (e_var 1))) (ss_one (s_ret (e_if (t_val (e_var 1)) (e_cmp opr_is opd_is (e_var 0) e_bl rfl) (e_cmp opr_is opd_is (e_var 0) e_bl rfl)))) ss_nil)
    (ss_cons (s_if (t_val (e_isi (T := "int") (by decide) rfl T.m_isinstance rfl T.m_int (by decide +kernel) (e_var 1))) (ss_one (s_ret (e_and (e_isi (T := "int") (by decide) rfl T.m_isinstance rfl T.m_int (by decide +kernel) (e_var 0)) (e_and (e_not (e_isi (T := "bool") (by decide) rfl T.m_isinstance rfl T.m_bool (by decide +kernel) (e_var 0))) (e_one (e_cmp (op_eqD B.toBd.u) opd_eq (e_callTy call_int1 cd_int rfl T.m_int (by decide +kernel) (a_cons (e_var 0) a_nil)) (e_var 1) rfl)))))) ss_nil)
    (ss_one (s_ret (e_and (e_isi (T := "str") (by decide) rfl T.m_isinstance rfl T.m_str (by decide +kernel) (e_var 0)) (e_one (e_cmp (op_eqD B.toBd.u) opd_eq (e_callTy SkE.call_str_str cd_str rfl T.m_str (by decide +kernel) (a_cons (e_var 0) a_nil)) (e_var 1) rfl)))))))))) len__law_same p__law_same
/-! is_tuple_of -/
theorem sc_is_tuple_of : FnScope ["value", "least", "most"] ["value", "least", "most"] (defScope s_is_tuple_of) := ⟨rfl, rfl, rfl, by decide +kernel, rfl, by decide +kernel, by decide +kernel⟩
def t_is_tuple_of : DS := (dRet (dAnd (dIsi "tuple" (dVar 0)) (dChain gLe gLe (dVar 1) (dArgs gLen (dCons (dVar 0) dNil)) (dVar 2))))
def f_is_tuple_of : Φ := fun ds R _ => ∃ (xs : List D) (a b : Int), ds = [.tup xs, .int a, .int b] ∧ R (.bl (decide (a ≤ xs.length ∧ (xs.length : Int) ≤ b)))
theorem len_is_tuple_of : ∀ ds R Z, f_is_tuple_of ds R Z → nV false ds = 3 := by rintro ds R Z ⟨n, a, b, rfl, _⟩; rfl
theorem p_is_tuple_of : ∀ ds R Z, f_is_tuple_of ds R Z → t_is_tuple_of (ends R Z) (start' 3 false ds) := by
  rintro ds R Z ⟨xs, a, b, rfl, h⟩
  simp [t_is_tuple_of, dRet, dSeq, dIfS, dSet, dSetF, dDrop, dCall, dCallC, dArgs, dOn, dCons, dNil, dVar, dC, dBin, dChain, dUn, dAnd, dOr, dNot, dB, dAndT, dOrT, dNotT, dIf, dTup, dLst, dLstF, dFz, dItems, itemsD, dRg1, dRg2, dEnum, dZip, gZip, dCupGet, dCupSet, dNext, dRetN, dRaise, ends, start', nV, gI, gI0, DL.gSub, gMul, gFdiv, gMod, gPow, gAdd, gNeg, gLt, gLe, gGt, gGe, gEq, gNe, gIn, negB, gIs, isNonD, gIx, dIsi, isTy, tyD, gLen, gAbs, gInt, gTupL, gLenL, gSumL, gTuple, dComp, noOwn, S.own, CDiv, CMul, CPow, eqvD_int, eqvD_tup, eqvD_lst, okD_int, okD_tup, okD_lst, okD_tup0, okD_lst0, eqvD_tup0, eqvD_lst0, inF_int, flatD, flat_ints, imap_inj, and_assoc, exists_eq_left, exists_eq_left', dSl, dNoPart, dPart, gSl, gStr]
  by_cases h1 : a ≤ xs.length <;> simp_all
theorem h_is_tuple_of (T : Top K mg) : Has P w K mg base 1 "is_tuple_of" ["value", "least", "most"] false f_is_tuple_of := by
  obtain ⟨fd, Fd, hm⟩ := T.d_is_tuple_of
  exact D_has (k := 0) (N := ["value", "least", "most"]) (t := t_is_tuple_of) hm Fd sc_is_tuple_of (fun _ _ _ _ _ _ us hl => match us, hl with | [_, _, _], _ => rfl) (fun cd A outer s H E F B => (ss_one (s_ret (e_and (e_isi (T := "tuple") (by decide) rfl T.m_isinstance rfl T.m_tuple (by decide +kernel) (e_var 0)) (e_one (e_chain op_le opd_B0 op_le opd_B0 (e_var 1) (e_callB call_len cd_len rfl T.m_len (by decide +kernel) (a_cons (e_var 0) a_nil)) (e_var 2))))))) len_is_tuple_of p_is_tuple_of
/-! is_rising -/
theorem sc_is_rising : FnScope ["values", "one", "other"] ["values"] (defScope s_is_rising) := ⟨rfl, rfl, rfl, by decide +kernel, rfl, by decide +kernel, by decide +kernel⟩
def t_is_rising : DS := (dRet (dOn gAll (dComp (dZip (dVar 0) (dSl (dVar 0) (dPart (dC (.int 1))) dNoPart)) (.tp [1, 2]) dYes (dBin gLt (dVar 1) (dVar 2)) [1, 2])))
def f_is_rising : Φ := fun ds R _ => ∃ ns : List Int, ds = [iT ns] ∧ ns.length ≤ 16777216 ∧ R (.bl (decide (ns.Pairwise (· < ·))))
theorem len_is_rising : ∀ ds R Z, f_is_rising ds R Z → nV false ds = 1 := by rintro ds R Z ⟨ns, rfl, _⟩; rfl
theorem p_is_rising : ∀ ds R Z, f_is_rising ds R Z → t_is_rising (ends R Z) (start' 3 false ds) := by
  rintro ds R Z ⟨ns, rfl, hl, h⟩
  have e : DL.cutD (List.map D.int ns) (some 1) none = (List.map D.int ns).tail := by
    rw [← List.map_tail, ← List.drop_one]; exact cut_from ns 1
  have e2 : zipD (List.map D.int ns) (List.map D.int ns).tail = (ns.zip ns.tail).map fun p => .tup [.int p.1, .int p.2] := by
    rw [← List.map_tail]; exact zipD_ints ns ns.tail
  simp [t_is_rising, dRet, dSeq, dIfS, dSet, dSetF, dDrop, dCall, dCallC, dArgs, dOn, dCons, dNil, dVar, dC, dBin, dChain, dUn, dAnd, dOr, dNot, dB, dAndT, dOrT, dNotT, dIf, dTup, dLst, dLstF, dFz, dItems, itemsD, dRg1, dRg2, dEnum, dZip, gZip, dCupGet, dCupSet, dNext, dRetN, dRaise, ends, start', nV, gI, gI0, DL.gSub, gMul, gFdiv, gMod, gPow, gAdd, gNeg, gLt, gLe, gGt, gGe, gEq, gNe, gIn, negB, gIs, isNonD, gIx, dIsi, isTy, tyD, gLen, gAbs, gInt, gTupL, gLenL, gSumL, gTuple, dComp, noOwn, S.own, CDiv, CMul, CPow, eqvD_int, eqvD_tup, eqvD_lst, okD_int, okD_tup, okD_lst, okD_tup0, okD_lst0, eqvD_tup0, eqvD_lst0, inF_int, flatD, flat_ints, imap_inj, and_assoc, exists_eq_left, exists_eq_left', dSl, dNoPart, dPart, gSl, gStr, gAll]
  rw [e, e2]
  refine compD_mapA _ (fun p => .bl (decide (p.1 < p.2))) (fun p hp K1 k => ?_) ?_
  · simp [bindT, setAll, wipeS, dRet, dSeq, dIfS, dSet, dSetF, dDrop, dCall, dCallC, dArgs, dOn, dCons, dNil, dVar, dC, dBin, dChain, dUn, dAnd, dOr, dNot, dB, dAndT, dOrT, dNotT, dIf, dTup, dLst, dLstF, dFz, dItems, itemsD, dRg1, dRg2, dEnum, dZip, gZip, dCupGet, dCupSet, dNext, dRetN, dRaise, ends, start', nV, gI, gI0, DL.gSub, gMul, gFdiv, gMod, gPow, gAdd, gNeg, gLt, gLe, gGt, gGe, gEq, gNe, gIn, negB, gIs, isNonD, gIx, dIsi, isTy, tyD, gLen, gAbs, gInt, gTupL, gLenL, gSumL, gTuple, dComp, noOwn, S.own, CDiv, CMul, CPow, eqvD_int, eqvD_tup, eqvD_lst, okD_int, okD_tup, okD_lst, okD_tup0, okD_lst0, eqvD_tup0, eqvD_lst0, inF_int, flatD, flat_ints, imap_inj, and_assoc, exists_eq_left, exists_eq_left', dSl, dNoPart, dPart, gSl, gStr]
    exact k
  · refine ⟨(ns.zip ns.tail).map fun p => decide (p.1 < p.2), ?_, ?_⟩
    · rw [← unBls_map]; simp [List.map_map, Function.comp_def]
    · have q := rising_iff ns
      rw [List.drop_one] at q
      rw [List.all_map]
      show R (.bl ((ns.zip ns.tail).all fun p => decide (p.1 < p.2)))
      rw [q]
      exact h
theorem h_is_rising (T : Top K mg) : Has P w K mg base 1 "is_rising" ["values"] false f_is_rising := by
  obtain ⟨fd, Fd, hm⟩ := T.d_is_rising
  exact D_has (k := 0) (N := ["values", "one", "other"]) (t := t_is_rising) hm Fd sc_is_rising (fun _ _ _ _ _ _ us hl => match us, hl with | [_], _ => rfl) (fun cd A outer s H E F B => (ss_one (s_ret (e_onL (cr_all B.toBd.calm) cl_all rfl T.m_all (by decide +kernel) (l_ofF (f_comp (tgt := (.tp [1, 2])) [("one", 1), ("other", 2)] B.toBd sc_is_rising.nd (by kernel_rfl) (by rfl) (i_zip rfl T.m_zip (e_var 0) (e_sl (e_var 0) (o_some e_int) o_none)) (gt_tp [1, 2]) (fun _ _ _ _ _ => (pg_tup B.toBd.calm (pgs_cons (pg_name sc_is_rising.nd rfl (by first | exact Or.inl rfl | exact Or.inr rfl)) (pgs_cons (pg_name sc_is_rising.nd rfl (by first | exact Or.inl rfl | exact Or.inr rfl)) pgs_nil)))) (fun _ _ _ _ _ => ts_nil) (fun _ _ _ _ _ => (e_cmp (opr_lt B.toBd.blk.u0) opd_lt (e_var 1) (e_var 2) rfl)))))))) len_is_rising p_is_rising
/-! is_whole -/
theorem sc_is_whole : FnScope ["value"] ["value"] (defScope s_is_whole) := ⟨rfl, rfl, rfl, by decide +kernel, rfl, by decide +kernel, by decide +kernel⟩
def t_is_whole : DS := (dRet (dAnd (dIsi "int" (dVar 0)) (dNot (dIsi "bool" (dVar 0)))))
def f_is_whole : Φ := fun ds R _ => ∃ n : Int, ds = [.int n] ∧ R (.bl true)
theorem len_is_whole : ∀ ds R Z, f_is_whole ds R Z → nV false ds = 1 := by rintro ds R Z ⟨n, rfl, _⟩; rfl
theorem p_is_whole : ∀ ds R Z, f_is_whole ds R Z → t_is_whole (ends R Z) (start' 1 false ds) := by
  rintro ds R Z ⟨n, rfl, h⟩
  simpa [t_is_whole, dRet, dSeq, dIfS, dSet, dSetF, dDrop, dCall, dCallC, dArgs, dOn, dCons, dNil, dVar, dC, dBin, dChain, dUn, dAnd, dOr, dNot, dB, dAndT, dOrT, dNotT, dIf, dTup, dLst, dLstF, dFz, dItems, itemsD, dRg1, dRg2, dEnum, dZip, gZip, dCupGet, dCupSet, dNext, dRetN, dRaise, ends, start', nV, gI, gI0, DL.gSub, gMul, gFdiv, gMod, gPow, gAdd, gNeg, gLt, gLe, gGt, gGe, gEq, gNe, gIn, negB, gIs, isNonD, gIx, dIsi, isTy, tyD, gLen, gAbs, gInt, gTupL, gLenL, gSumL, gTuple, dComp, noOwn, S.own, CDiv, CMul, CPow, eqvD_int, eqvD_tup, eqvD_lst, okD_int, okD_tup, okD_lst, okD_tup0, okD_lst0, eqvD_tup0, eqvD_lst0, inF_int, flatD, flat_ints, imap_inj, and_assoc, exists_eq_left, exists_eq_left', dSl, dNoPart, dPart, gSl, gStr] using h
theorem h_is_whole (T : Top K mg) : Has P w K mg base 1 "is_whole" ["value"] false f_is_whole := by
  obtain ⟨fd, Fd, hm⟩ := T.d_is_whole
  exact D_has (k := 0) (N := ["value"]) (t := t_is_whole) hm Fd sc_is_whole (fun _ _ _ _ _ _ us hl => match us, hl with | [_], _ => rfl) (fun cd A outer s H E F B => (ss_one (s_ret (e_and (e_isi (T := "int") (by decide) rfl T.m_isinstance rfl T.m_int (by decide +kernel) (e_var 0)) (e_one (e_not (e_isi (T := "bool") (by decide) rfl T.m_isinstance rfl T.m_bool (by decide +kernel) (e_var 0)))))))) len_is_whole p_is_whole
/-! fits_whole -/
theorem sc_fits_whole : FnScope ["value", "low", "high"] ["value", "low", "high"] (defScope s_fits_whole) := ⟨rfl, rfl, rfl, by decide +kernel, rfl, by decide +kernel, by decide +kernel⟩
def t_fits_whole : DS := (dRet (dAnd (dCall f_is_whole (dCons (dVar 0) dNil)) (dChain gLe gLe (dVar 1) (dVar 0) (dVar 2))))
def f_fits_whole : Φ := fun ds R _ => ∃ n a b : Int, ds = [.int n, .int a, .int b] ∧ R (.bl (decide (a ≤ n) && decide (n ≤ b)))
theorem len_fits_whole : ∀ ds R Z, f_fits_whole ds R Z → nV false ds = 3 := by rintro ds R Z ⟨n, a, b, rfl, _⟩; rfl
theorem p_fits_whole : ∀ ds R Z, f_fits_whole ds R Z → t_fits_whole (ends R Z) (start' 3 false ds) := by
  rintro ds R Z ⟨n, a, b, rfl, h⟩
  simp [t_fits_whole, f_is_whole, dRet, dSeq, dIfS, dSet, dSetF, dDrop, dCall, dCallC, dArgs, dOn, dCons, dNil, dVar, dC, dBin, dChain, dUn, dAnd, dOr, dNot, dB, dAndT, dOrT, dNotT, dIf, dTup, dLst, dLstF, dFz, dItems, itemsD, dRg1, dRg2, dEnum, dZip, gZip, dCupGet, dCupSet, dNext, dRetN, dRaise, ends, start', nV, gI, gI0, DL.gSub, gMul, gFdiv, gMod, gPow, gAdd, gNeg, gLt, gLe, gGt, gGe, gEq, gNe, gIn, negB, gIs, isNonD, gIx, dIsi, isTy, tyD, gLen, gAbs, gInt, gTupL, gLenL, gSumL, gTuple, dComp, noOwn, S.own, CDiv, CMul, CPow, eqvD_int, eqvD_tup, eqvD_lst, okD_int, okD_tup, okD_lst, okD_tup0, okD_lst0, eqvD_tup0, eqvD_lst0, inF_int, flatD, flat_ints, imap_inj, and_assoc, exists_eq_left, exists_eq_left', dSl, dNoPart, dPart, gSl, gStr]
  by_cases h1 : a ≤ n <;> simp_all
theorem h_fits_whole (T : Top K mg) : Has P w K mg base 2 "fits_whole" ["value", "low", "high"] false f_fits_whole := by
  obtain ⟨fd, Fd, hm⟩ := T.d_fits_whole
  have h_is_whole := h_is_whole (P := P) (w := w) (base := base) T
  exact D_has (k := 1) (N := ["value", "low", "high"]) (t := t_fits_whole) hm Fd sc_fits_whole (fun _ _ _ _ _ _ us hl => match us, hl with | [_, _, _], _ => rfl) (fun cd A outer s H E F B => (ss_one (s_ret (e_and (e_h h_is_whole B.toBd (by decide) rfl (a_cons (e_var 0) a_nil)) (e_one (e_chain op_le opd_B0 op_le opd_B0 (e_var 1) (e_var 0) (e_var 2))))))) len_fits_whole p_fits_whole
/-! fits_tone -/
theorem sc_fits_tone : FnScope ["value"] ["value"] (defScope s_fits_tone) := ⟨rfl, rfl, rfl, by decide +kernel, rfl, by decide +kernel, by decide +kernel⟩
def t_fits_tone : DS := (dRet (dCall f_fits_whole (dCons (dVar 0) (dCons (dUn gNeg (dC (.int 100))) (dCons (dC (.int 100)) dNil)))))
def f_fits_tone : Φ := fun ds R _ => ∃ n : Int, ds = [.int n] ∧ R (.bl (decide (-100 ≤ n ∧ n ≤ 100)))
theorem len_fits_tone : ∀ ds R Z, f_fits_tone ds R Z → nV false ds = 1 := by rintro ds R Z ⟨n, rfl, _⟩; rfl
theorem p_fits_tone : ∀ ds R Z, f_fits_tone ds R Z → t_fits_tone (ends R Z) (start' 1 false ds) := by
  rintro ds R Z ⟨n, rfl, h⟩
  simpa [t_fits_tone, f_fits_whole, dRet, dSeq, dIfS, dSet, dSetF, dDrop, dCall, dCallC, dArgs, dOn, dCons, dNil, dVar, dC, dBin, dChain, dUn, dAnd, dOr, dNot, dB, dAndT, dOrT, dNotT, dIf, dTup, dLst, dLstF, dFz, dItems, itemsD, dRg1, dRg2, dEnum, dZip, gZip, dCupGet, dCupSet, dNext, dRetN, dRaise, ends, start', nV, gI, gI0, DL.gSub, gMul, gFdiv, gMod, gPow, gAdd, gNeg, gLt, gLe, gGt, gGe, gEq, gNe, gIn, negB, gIs, isNonD, gIx, dIsi, isTy, tyD, gLen, gAbs, gInt, gTupL, gLenL, gSumL, gTuple, dComp, noOwn, S.own, CDiv, CMul, CPow, eqvD_int, eqvD_tup, eqvD_lst, okD_int, okD_tup, okD_lst, okD_tup0, okD_lst0, eqvD_tup0, eqvD_lst0, inF_int, flatD, flat_ints, imap_inj, and_assoc, exists_eq_left, exists_eq_left', dSl, dNoPart, dPart, gSl, gStr] using h
theorem h_fits_tone (T : Top K mg) : Has P w K mg base 3 "fits_tone" ["value"] false f_fits_tone := by
  obtain ⟨fd, Fd, hm⟩ := T.d_fits_tone
  have h_fits_whole := h_fits_whole (P := P) (w := w) (base := base) T
  exact D_has (k := 2) (N := ["value"]) (t := t_fits_tone) hm Fd sc_fits_tone (fun _ _ _ _ _ _ us hl => match us, hl with | [_], _ => rfl) (fun cd A outer s H E F B => (ss_one (s_ret (e_h h_fits_whole B.toBd (by decide) rfl (a_cons (e_var 0) (a_cons (e_neg (e_gi T.c_HIGH rfl)) (a_cons (e_gi T.c_HIGH rfl) a_nil))))))) len_fits_tone p_fits_tone
/-! fits_pipes -/
theorem sc_fits_pipes : FnScope ["value", "one"] ["value"] (defScope s_fits_pipes) := ⟨rfl, rfl, rfl, by decide +kernel, rfl, by decide +kernel, by decide +kernel⟩
def t_fits_pipes : DS := (dRet (dAnd (dCall f_is_tuple_of (dCons (dVar 0) (dCons (dC (.int 0)) (dCons (dC (.int 60)) dNil)))) (dAnd (dOn gAll (dComp (dItems (dVar 0)) (.nm 1) dYes (dCall f_fits_tone (dCons (dVar 1) dNil)) [1])) (dCall f_is_rising (dCons (dVar 0) dNil)))))
def f_fits_pipes : Φ := fun ds R _ => ∃ ns : List Int, ds = [iT ns] ∧ ns.length ≤ 16777216 ∧ R (.bl (decide (okP ns)))
theorem len_fits_pipes : ∀ ds R Z, f_fits_pipes ds R Z → nV false ds = 1 := by rintro ds R Z ⟨ns, rfl, _⟩; rfl
theorem p_fits_pipes : ∀ ds R Z, f_fits_pipes ds R Z → t_fits_pipes (ends R Z) (start' 2 false ds) := by
  rintro ds R Z ⟨ns, rfl, hl, h⟩
  simp [t_fits_pipes, f_is_tuple_of, f_is_rising, dRet, dSeq, dIfS, dSet, dSetF, dDrop, dCall, dCallC, dArgs, dOn, dCons, dNil, dVar, dC, dBin, dChain, dUn, dAnd, dOr, dNot, dB, dAndT, dOrT, dNotT, dIf, dTup, dLst, dLstF, dFz, dItems, itemsD, dRg1, dRg2, dEnum, dZip, gZip, dCupGet, dCupSet, dNext, dRetN, dRaise, ends, start', nV, gI, gI0, DL.gSub, gMul, gFdiv, gMod, gPow, gAdd, gNeg, gLt, gLe, gGt, gGe, gEq, gNe, gIn, negB, gIs, isNonD, gIx, dIsi, isTy, tyD, gLen, gAbs, gInt, gTupL, gLenL, gSumL, gTuple, dComp, noOwn, S.own, CDiv, CMul, CPow, eqvD_int, eqvD_tup, eqvD_lst, okD_int, okD_tup, okD_lst, okD_tup0, okD_lst0, eqvD_tup0, eqvD_lst0, inF_int, flatD, flat_ints, imap_inj, and_assoc, exists_eq_left, exists_eq_left', dSl, dNoPart, dPart, gSl, gStr, gAll]
  split
  · rename_i h1
    refine compD_mapA _ (fun n => .bl (decide (-100 ≤ n ∧ n ≤ 100))) (fun p hp K1 k => ?_) ?_
    · simp [bindT, wipeS, f_fits_tone, dRet, dSeq, dIfS, dSet, dSetF, dDrop, dCall, dCallC, dArgs, dOn, dCons, dNil, dVar, dC, dBin, dChain, dUn, dAnd, dOr, dNot, dB, dAndT, dOrT, dNotT, dIf, dTup, dLst, dLstF, dFz, dItems, itemsD, dRg1, dRg2, dEnum, dZip, gZip, dCupGet, dCupSet, dNext, dRetN, dRaise, ends, start', nV, gI, gI0, DL.gSub, gMul, gFdiv, gMod, gPow, gAdd, gNeg, gLt, gLe, gGt, gGe, gEq, gNe, gIn, negB, gIs, isNonD, gIx, dIsi, isTy, tyD, gLen, gAbs, gInt, gTupL, gLenL, gSumL, gTuple, dComp, noOwn, S.own, CDiv, CMul, CPow, eqvD_int, eqvD_tup, eqvD_lst, okD_int, okD_tup, okD_lst, okD_tup0, okD_lst0, eqvD_tup0, eqvD_lst0, inF_int, flatD, flat_ints, imap_inj, and_assoc, exists_eq_left, exists_eq_left', dSl, dNoPart, dPart, gSl, gStr] at k ⊢
      exact k
    · refine ⟨ns.map fun n => decide (-100 ≤ n ∧ n ≤ 100), ?_, ?_⟩
      · rw [← unBls_map]; simp [List.map_map, Function.comp_def]
      · by_cases h2 : ∀ n ∈ ns, -100 ≤ n ∧ n ≤ 100
        · rw [if_neg (by simp; intro x hx; exact h2 x hx)]
          refine ⟨hl, ?_⟩
          have e : decide (okP ns) = decide (ns.Pairwise (· < ·)) := by
            rw [decide_eq_decide]
            exact ⟨fun h => h.2.2, fun h => ⟨by omega, h2, h⟩⟩
          rw [← e]; exact h
        · rw [if_pos (by
            rw [List.mem_map]
            apply Classical.byContradiction
            intro q
            apply h2
            intro n hn
            apply Classical.byContradiction
            intro r
            exact q ⟨n, hn, decide_eq_false r⟩)]
          have e : decide (okP ns) = false := decide_eq_false fun q => h2 q.2.1
          rw [e] at h; exact h
  · rename_i h1
    have e : decide (okP ns) = false := by
      rw [decide_eq_false_iff_not]
      intro q
      apply h1
      have := q.1
      simp
      omega
    rw [e] at h; exact h
theorem h_fits_pipes (T : Top K mg) : Has P w K mg base 4 "fits_pipes" ["value"] false f_fits_pipes := by
  obtain ⟨fd, Fd, hm⟩ := T.d_fits_pipes
  have h_is_tuple_of := h_is_tuple_of (P := P) (w := w) (base := base) T
  have h_is_rising := h_is_rising (P := P) (w := w) (base := base) T
  have h_fits_tone := h_fits_tone (P := P) (w := w) (base := base) T
  exact D_has (k := 3) (N := ["value", "one"]) (t := t_fits_pipes) hm Fd sc_fits_pipes (fun _ _ _ _ _ _ us hl => match us, hl with | [_], _ => rfl) (fun cd A outer s H E F B => (ss_one (s_ret (e_and (e_h h_is_tuple_of B.toBd (by decide) rfl (a_cons (e_var 0) (a_cons e_int (a_cons (e_gi T.c_PIPES rfl) a_nil)))) (e_and (e_onL (cr_all B.toBd.calm) cl_all rfl T.m_all (by decide +kernel) (l_ofF (f_comp (tgt := (.nm 1)) [("one", 1)] B.toBd sc_fits_pipes.nd (by kernel_rfl) (by rfl) (i_seq (e_var 0)) (gt_nm 1) (fun _ _ _ _ _ => (pg_name sc_fits_pipes.nd rfl (by first | exact Or.inl rfl | exact Or.inr rfl))) (fun _ _ _ _ _ => ts_nil) (fun _ _ _ _ _ => (e_h h_fits_tone B.toBd.blk (by decide) rfl (a_cons (e_var 1) a_nil)))))) (e_one (e_h h_is_rising B.toBd (by decide) rfl (a_cons (e_var 0) a_nil)))))))) len_fits_pipes p_fits_pipes
/-! need_pipes -/
theorem sc_need_pipes : FnScope ["value"] ["value"] (defScope s_need_pipes) := ⟨rfl, rfl, rfl, by decide +kernel, rfl, by decide +kernel, by decide +kernel⟩
def t_need_pipes : DS := (dIfS (dNotT (dB (dCall f_fits_pipes (dCons (dVar 0) dNil)))) (dRaise "InvalidSet") dNext)
def f_need_pipes : Φ := fun ds R _ => ∃ ns : List Int, ds = [iT ns] ∧ okP ns ∧ R .non
theorem len_need_pipes : ∀ ds R Z, f_need_pipes ds R Z → nV false ds = 1 := by rintro ds R Z ⟨ns, rfl, _⟩; rfl
theorem p_need_pipes : ∀ ds R Z, f_need_pipes ds R Z → t_need_pipes (ends R Z) (start' 1 false ds) := by
  rintro ds R Z ⟨ns, rfl, hp, h⟩
  have := hp.1
  simp [t_need_pipes, f_fits_pipes, dRet, dSeq, dIfS, dSet, dSetF, dDrop, dCall, dCallC, dArgs, dOn, dCons, dNil, dVar, dC, dBin, dChain, dUn, dAnd, dOr, dNot, dB, dAndT, dOrT, dNotT, dIf, dTup, dLst, dLstF, dFz, dItems, itemsD, dRg1, dRg2, dEnum, dZip, gZip, dCupGet, dCupSet, dNext, dRetN, dRaise, ends, start', nV, gI, gI0, DL.gSub, gMul, gFdiv, gMod, gPow, gAdd, gNeg, gLt, gLe, gGt, gGe, gEq, gNe, gIn, negB, gIs, isNonD, gIx, dIsi, isTy, tyD, gLen, gAbs, gInt, gTupL, gLenL, gSumL, gTuple, dComp, noOwn, S.own, CDiv, CMul, CPow, eqvD_int, eqvD_tup, eqvD_lst, okD_int, okD_tup, okD_lst, okD_tup0, okD_lst0, eqvD_tup0, eqvD_lst0, inF_int, flatD, flat_ints, imap_inj, and_assoc, exists_eq_left, exists_eq_left', dSl, dNoPart, dPart, gSl, gStr]
  exact ⟨by omega, by simp [hp, h]⟩
theorem h_need_pipes (T : Top K mg) : Has P w K mg base 5 "need_pipes" ["value"] false f_need_pipes := by
  obtain ⟨fd, Fd, hm⟩ := T.d_need_pipes
  have h_fits_pipes := h_fits_pipes (P := P) (w := w) (base := base) T
  exact D_has (k := 4) (N := ["value"]) (t := t_need_pipes) hm Fd sc_need_pipes (fun _ _ _ _ _ _ us hl => match us, hl with | [_], _ => rfl) (fun cd A outer s H E F B => (ss_one (s_if (t_not (t_val (e_h h_fits_pipes B.toBd (by decide) rfl (a_cons (e_var 0) a_nil)))) (ss_one (s_raiseV T.x_InvalidSet B rfl)) ss_nil))) len_need_pipes p_need_pipes
/-! with_pipes -/
theorem sc_with_pipes : FnScope ["pipes", "more", "found"] ["pipes", "more"] (defScope s_with_pipes) := ⟨rfl, rfl, rfl, by decide +kernel, rfl, by decide +kernel, by decide +kernel⟩
def t_with_pipes : DS := (dSeq (dDrop (dCall f_need_pipes (dCons (dVar 0) dNil)))
  (dSeq (dDrop (dCall f_need_pipes (dCons (dVar 1) dNil)))
  (dSeq (dSet 2 (dOn gSS (dItems (dBin gAdd (dVar 0) (dVar 1)))))
  (dSeq (dIfS (dB (dBin gGt (dArgs gLen (dCons (dVar 2) dNil)) (dC (.int 60)))) (dRaise "InvalidNumber") dNext)
  (dRet (dArgs gTuple (dCons (dVar 2) dNil)))))))
def f_with_pipes : Φ := fun ds R Z => ∃ ps ns : List Int, ds = [iT ps, iT ns] ∧ okP ps ∧ okP ns ∧ (if (sortU (ps ++ ns)).length ≤ 60 then R (iT (sortU (ps ++ ns))) else Z "InvalidNumber")
theorem len_with_pipes : ∀ ds R Z, f_with_pipes ds R Z → nV false ds = 2 := by rintro ds R Z ⟨ps, ns, rfl, _⟩; rfl
theorem p_with_pipes : ∀ ds R Z, f_with_pipes ds R Z → t_with_pipes (ends R Z) (start' 3 false ds) := by
  rintro ds R Z ⟨ps, ns, rfl, hp, ht, h⟩
  have l1 := hp.1
  have l2 := ht.1
  simp [t_with_pipes, f_need_pipes, dRet, dSeq, dIfS, dSet, dSetF, dDrop, dCall, dCallC, dArgs, dOn, dCons, dNil, dVar, dC, dBin, dChain, dUn, dAnd, dOr, dNot, dB, dAndT, dOrT, dNotT, dIf, dTup, dLst, dLstF, dFz, dItems, itemsD, dRg1, dRg2, dEnum, dZip, gZip, dCupGet, dCupSet, dNext, dRetN, dRaise, ends, start', nV, gI, gI0, DL.gSub, gMul, gFdiv, gMod, gPow, gAdd, gNeg, gLt, gLe, gGt, gGe, gEq, gNe, gIn, negB, gIs, isNonD, gIx, dIsi, isTy, tyD, gLen, gAbs, gInt, gTupL, gLenL, gSumL, gTuple, dComp, noOwn, S.own, CDiv, CMul, CPow, eqvD_int, eqvD_tup, eqvD_lst, okD_int, okD_tup, okD_lst, okD_tup0, okD_lst0, eqvD_tup0, eqvD_lst0, inF_int, flatD, flat_ints, imap_inj, and_assoc, exists_eq_left, exists_eq_left', dSl, dNoPart, dPart, gSl, gStr, gSS]
  have := sizeLine_eq
  refine ⟨hp, ht, by omega, ps ++ ns, by rw [← List.map_append]; exact unInts_map _, by simp; omega, ?_⟩
  split at h
  · exact .inl ⟨by omega, h⟩
  · exact .inr ⟨by omega, h⟩
theorem h_with_pipes (T : Top K mg) : Has P w K mg base 6 "with_pipes" ["pipes", "more"] false f_with_pipes := by
  obtain ⟨fd, Fd, hm⟩ := T.d_with_pipes
  have h_need_pipes := h_need_pipes (P := P) (w := w) (base := base) T
  exact D_has (k := 5) (N := ["pipes", "more", "found"]) (t := t_with_pipes) hm Fd sc_with_pipes (fun _ _ _ _ _ _ us hl => match us, hl with | [_, _], _ => rfl) (fun cd A outer s H E F B => (ss_cons (s_expr (e_h h_need_pipes B.toBd (by decide) rfl (a_cons (e_var 0) a_nil)))
    (ss_cons (s_expr (e_h h_need_pipes B.toBd (by decide) rfl (a_cons (e_var 1) a_nil)))
    (ss_cons (s_set 2 sc_with_pipes.nd rfl (by first | exact Or.inl rfl | exact Or.inr rfl) (e_sortSet B.toBd.calm rfl T.m_set rfl T.m_sorted (e_bin opr_add opd_add (e_var 0) (e_var 1))))
    (ss_cons (s_if (t_cmp op_gt opd_B0 (e_callB call_len cd_len rfl T.m_len (by decide +kernel) (a_cons (e_var 2) a_nil)) (e_gi T.c_PIPES rfl) rfl) (ss_one (s_raiseV T.x_InvalidNumber B rfl)) ss_nil)
    (ss_one (s_ret (e_callTy call_tupleF cd_tuple rfl T.m_tuple (by decide +kernel) (a_cons (e_var 2) a_nil))))))))) len_with_pipes p_with_pipes
/-! fits_tune -/
theorem sc_fits_tune : FnScope ["value", "one"] ["value"] (defScope s_fits_tune) := ⟨rfl, rfl, rfl, by decide +kernel, rfl, by decide +kernel, by decide +kernel⟩
def t_fits_tune : DS := (dRet (dAnd (dCall f_is_tuple_of (dCons (dVar 0) (dCons (dC (.int 0)) (dCons (dC (.int 60)) dNil)))) (dOn gAll (dComp (dItems (dVar 0)) (.nm 1) dYes (dCall f_fits_tone (dCons (dVar 1) dNil)) [1]))))
def f_fits_tune : Φ := fun ds R _ => ∃ ns : List Int, ds = [iT ns] ∧ okT ns ∧ R (.bl true)
theorem len_fits_tune : ∀ ds R Z, f_fits_tune ds R Z → nV false ds = 1 := by rintro ds R Z ⟨ns, rfl, _⟩; rfl
theorem p_fits_tune : ∀ ds R Z, f_fits_tune ds R Z → t_fits_tune (ends R Z) (start' 2 false ds) := by
  rintro ds R Z ⟨ns, rfl, ho, h⟩
  have := ho.1
  simp [t_fits_tune, f_is_tuple_of, dRet, dSeq, dIfS, dSet, dSetF, dDrop, dCall, dCallC, dArgs, dOn, dCons, dNil, dVar, dC, dBin, dChain, dUn, dAnd, dOr, dNot, dB, dAndT, dOrT, dNotT, dIf, dTup, dLst, dLstF, dFz, dItems, itemsD, dRg1, dRg2, dEnum, dZip, gZip, dCupGet, dCupSet, dNext, dRetN, dRaise, ends, start', nV, gI, gI0, DL.gSub, gMul, gFdiv, gMod, gPow, gAdd, gNeg, gLt, gLe, gGt, gGe, gEq, gNe, gIn, negB, gIs, isNonD, gIx, dIsi, isTy, tyD, gLen, gAbs, gInt, gTupL, gLenL, gSumL, gTuple, dComp, noOwn, S.own, CDiv, CMul, CPow, eqvD_int, eqvD_tup, eqvD_lst, okD_int, okD_tup, okD_lst, okD_tup0, okD_lst0, eqvD_tup0, eqvD_lst0, inF_int, flatD, flat_ints, imap_inj, and_assoc, exists_eq_left, exists_eq_left', dSl, dNoPart, dPart, gSl, gStr, gAll]
  rw [if_pos (by omega)]
  refine compD_mapA _ (fun n => .bl (decide (-100 ≤ n ∧ n ≤ 100))) (fun p hp K1 k => ?_) ?_
  · simp [bindT, wipeS, f_fits_tone, dRet, dSeq, dIfS, dSet, dSetF, dDrop, dCall, dCallC, dArgs, dOn, dCons, dNil, dVar, dC, dBin, dChain, dUn, dAnd, dOr, dNot, dB, dAndT, dOrT, dNotT, dIf, dTup, dLst, dLstF, dFz, dItems, itemsD, dRg1, dRg2, dEnum, dZip, gZip, dCupGet, dCupSet, dNext, dRetN, dRaise, ends, start', nV, gI, gI0, DL.gSub, gMul, gFdiv, gMod, gPow, gAdd, gNeg, gLt, gLe, gGt, gGe, gEq, gNe, gIn, negB, gIs, isNonD, gIx, dIsi, isTy, tyD, gLen, gAbs, gInt, gTupL, gLenL, gSumL, gTuple, dComp, noOwn, S.own, CDiv, CMul, CPow, eqvD_int, eqvD_tup, eqvD_lst, okD_int, okD_tup, okD_lst, okD_tup0, okD_lst0, eqvD_tup0, eqvD_lst0, inF_int, flatD, flat_ints, imap_inj, and_assoc, exists_eq_left, exists_eq_left', dSl, dNoPart, dPart, gSl, gStr] at k ⊢
    exact k
  · refine ⟨ns.map fun n => decide (-100 ≤ n ∧ n ≤ 100), ?_, ?_⟩
    · rw [← unBls_map]; simp [List.map_map, Function.comp_def]
    · have e : (ns.map fun n => decide (-100 ≤ n ∧ n ≤ 100)).all id = true := by
        simp
        exact ho.2
      rw [e]; exact h
theorem h_fits_tune (T : Top K mg) : Has P w K mg base 4 "fits_tune" ["value"] false f_fits_tune := by
  obtain ⟨fd, Fd, hm⟩ := T.d_fits_tune
  have h_is_tuple_of := h_is_tuple_of (P := P) (w := w) (base := base) T
  have h_fits_tone := h_fits_tone (P := P) (w := w) (base := base) T
  exact D_has (k := 3) (N := ["value", "one"]) (t := t_fits_tune) hm Fd sc_fits_tune (fun _ _ _ _ _ _ us hl => match us, hl with | [_], _ => rfl) (fun cd A outer s H E F B => (ss_one (s_ret (e_and (e_h h_is_tuple_of B.toBd (by decide) rfl (a_cons (e_var 0) (a_cons e_int (a_cons (e_gi T.c_LONGEST rfl) a_nil)))) (e_one (e_onL (cr_all B.toBd.calm) cl_all rfl T.m_all (by decide +kernel) (l_ofF (f_comp (tgt := (.nm 1)) [("one", 1)] B.toBd sc_fits_tune.nd (by kernel_rfl) (by rfl) (i_seq (e_var 0)) (gt_nm 1) (fun _ _ _ _ _ => (pg_name sc_fits_tune.nd rfl (by first | exact Or.inl rfl | exact Or.inr rfl))) (fun _ _ _ _ _ => ts_nil) (fun _ _ _ _ _ => (e_h h_fits_tone B.toBd.blk (by decide) rfl (a_cons (e_var 1) a_nil))))))))))) len_fits_tune p_fits_tune
/-! need_tune -/
theorem sc_need_tune : FnScope ["value"] ["value"] (defScope s_need_tune) := ⟨rfl, rfl, rfl, by decide +kernel, rfl, by decide +kernel, by decide +kernel⟩
def t_need_tune : DS := (dIfS (dNotT (dB (dCall f_fits_tune (dCons (dVar 0) dNil)))) (dRaise "InvalidTune") dNext)
def f_need_tune : Φ := fun ds R _ => ∃ ns : List Int, ds = [iT ns] ∧ okT ns ∧ R .non
theorem len_need_tune : ∀ ds R Z, f_need_tune ds R Z → nV false ds = 1 := by rintro ds R Z ⟨ns, rfl, _⟩; rfl
theorem p_need_tune : ∀ ds R Z, f_need_tune ds R Z → t_need_tune (ends R Z) (start' 1 false ds) := by
  rintro ds R Z ⟨ns, rfl, hp, h⟩
  simp [t_need_tune, f_fits_tune, dRet, dSeq, dIfS, dSet, dSetF, dDrop, dCall, dCallC, dArgs, dOn, dCons, dNil, dVar, dC, dBin, dChain, dUn, dAnd, dOr, dNot, dB, dAndT, dOrT, dNotT, dIf, dTup, dLst, dLstF, dFz, dItems, itemsD, dRg1, dRg2, dEnum, dZip, gZip, dCupGet, dCupSet, dNext, dRetN, dRaise, ends, start', nV, gI, gI0, DL.gSub, gMul, gFdiv, gMod, gPow, gAdd, gNeg, gLt, gLe, gGt, gGe, gEq, gNe, gIn, negB, gIs, isNonD, gIx, dIsi, isTy, tyD, gLen, gAbs, gInt, gTupL, gLenL, gSumL, gTuple, dComp, noOwn, S.own, CDiv, CMul, CPow, eqvD_int, eqvD_tup, eqvD_lst, okD_int, okD_tup, okD_lst, okD_tup0, okD_lst0, eqvD_tup0, eqvD_lst0, inF_int, flatD, flat_ints, imap_inj, and_assoc, exists_eq_left, exists_eq_left', dSl, dNoPart, dPart, gSl, gStr]
  exact ⟨hp, h⟩
theorem h_need_tune (T : Top K mg) : Has P w K mg base 5 "need_tune" ["value"] false f_need_tune := by
  obtain ⟨fd, Fd, hm⟩ := T.d_need_tune
  have h_fits_tune := h_fits_tune (P := P) (w := w) (base := base) T
  exact D_has (k := 4) (N := ["value"]) (t := t_need_tune) hm Fd sc_need_tune (fun _ _ _ _ _ _ us hl => match us, hl with | [_], _ => rfl) (fun cd A outer s H E F B => (ss_one (s_if (t_not (t_val (e_h h_fits_tune B.toBd (by decide) rfl (a_cons (e_var 0) a_nil)))) (ss_one (s_raiseV T.x_InvalidTune B rfl)) ss_nil))) len_need_tune p_need_tune
/-! need_both -/
theorem sc_need_both : FnScope ["pipes", "tune"] ["pipes", "tune"] (defScope s_need_both) := ⟨rfl, rfl, rfl, by decide +kernel, rfl, by decide +kernel, by decide +kernel⟩
def t_need_both : DS := (dSeq (dDrop (dCall f_need_pipes (dCons (dVar 0) dNil)))
  (dDrop (dCall f_need_tune (dCons (dVar 1) dNil))))
def f_need_both : Φ := fun ds R _ => ∃ ps ns : List Int, ds = [iT ps, iT ns] ∧ okP ps ∧ okT ns ∧ R .non
theorem len_need_both : ∀ ds R Z, f_need_both ds R Z → nV false ds = 2 := by rintro ds R Z ⟨ps, ns, rfl, _⟩; rfl
theorem p_need_both : ∀ ds R Z, f_need_both ds R Z → t_need_both (ends R Z) (start' 2 false ds) := by
  rintro ds R Z ⟨ps, ns, rfl, hp, ht, h⟩
  simp [t_need_both, f_need_tune, f_need_pipes, dRet, dSeq, dIfS, dSet, dSetF, dDrop, dCall, dCallC, dArgs, dOn, dCons, dNil, dVar, dC, dBin, dChain, dUn, dAnd, dOr, dNot, dB, dAndT, dOrT, dNotT, dIf, dTup, dLst, dLstF, dFz, dItems, itemsD, dRg1, dRg2, dEnum, dZip, gZip, dCupGet, dCupSet, dNext, dRetN, dRaise, ends, start', nV, gI, gI0, DL.gSub, gMul, gFdiv, gMod, gPow, gAdd, gNeg, gLt, gLe, gGt, gGe, gEq, gNe, gIn, negB, gIs, isNonD, gIx, dIsi, isTy, tyD, gLen, gAbs, gInt, gTupL, gLenL, gSumL, gTuple, dComp, noOwn, S.own, CDiv, CMul, CPow, eqvD_int, eqvD_tup, eqvD_lst, okD_int, okD_tup, okD_lst, okD_tup0, okD_lst0, eqvD_tup0, eqvD_lst0, inF_int, flatD, flat_ints, imap_inj, and_assoc, exists_eq_left, exists_eq_left', dSl, dNoPart, dPart, gSl, gStr]
  exact ⟨hp, ht, h⟩
theorem h_need_both (T : Top K mg) : Has P w K mg base 6 "need_both" ["pipes", "tune"] false f_need_both := by
  obtain ⟨fd, Fd, hm⟩ := T.d_need_both
  have h_need_pipes := h_need_pipes (P := P) (w := w) (base := base) T
  have h_need_tune := h_need_tune (P := P) (w := w) (base := base) T
  exact D_has (k := 5) (N := ["pipes", "tune"]) (t := t_need_both) hm Fd sc_need_both (fun _ _ _ _ _ _ us hl => match us, hl with | [_, _], _ => rfl) (fun cd A outer s H E F B => (ss_cons (s_expr (e_h h_need_pipes B.toBd (by decide) rfl (a_cons (e_var 0) a_nil)))
    (ss_one (s_expr (e_h h_need_tune B.toBd (by decide) rfl (a_cons (e_var 1) a_nil)))))) len_need_both p_need_both
/-! can_in -/
theorem sc_can_in : FnScope ["pipes", "tune", "tone"] ["pipes", "tune"] (defScope s_can_in) := ⟨rfl, rfl, rfl, by decide +kernel, rfl, by decide +kernel, by decide +kernel⟩
def t_can_in : DS := (dRet (dOn gAll (dComp (dItems (dVar 1)) (.nm 2) dYes (dBin gIn (dVar 2) (dVar 0)) [2])))
def f_can_in : Φ := fun ds R _ => ∃ ps ns : List Int, ds = [iT ps, iT ns] ∧ R (.bl (ns.all fun n => decide (n ∈ ps)))
theorem len_can_in : ∀ ds R Z, f_can_in ds R Z → nV false ds = 2 := by rintro ds R Z ⟨ps, ns, rfl, _⟩; rfl
theorem p_can_in : ∀ ds R Z, f_can_in ds R Z → t_can_in (ends R Z) (start' 3 false ds) := by
  rintro ds R Z ⟨ps, ns, rfl, h⟩
  simp [t_can_in, dRet, dSeq, dIfS, dSet, dSetF, dDrop, dCall, dCallC, dArgs, dOn, dCons, dNil, dVar, dC, dBin, dChain, dUn, dAnd, dOr, dNot, dB, dAndT, dOrT, dNotT, dIf, dTup, dLst, dLstF, dFz, dItems, itemsD, dRg1, dRg2, dEnum, dZip, gZip, dCupGet, dCupSet, dNext, dRetN, dRaise, ends, start', nV, gI, gI0, DL.gSub, gMul, gFdiv, gMod, gPow, gAdd, gNeg, gLt, gLe, gGt, gGe, gEq, gNe, gIn, negB, gIs, isNonD, gIx, dIsi, isTy, tyD, gLen, gAbs, gInt, gTupL, gLenL, gSumL, gTuple, dComp, noOwn, S.own, CDiv, CMul, CPow, eqvD_int, eqvD_tup, eqvD_lst, okD_int, okD_tup, okD_lst, okD_tup0, okD_lst0, eqvD_tup0, eqvD_lst0, inF_int, flatD, flat_ints, imap_inj, and_assoc, exists_eq_left, exists_eq_left', dSl, dNoPart, dPart, gSl, gStr, gAll]
  refine compD_mapA _ (fun n => .bl (decide (n ∈ ps))) (fun p hp K1 k => ?_) ?_
  · simp [bindT, wipeS, dRet, dSeq, dIfS, dSet, dSetF, dDrop, dCall, dCallC, dArgs, dOn, dCons, dNil, dVar, dC, dBin, dChain, dUn, dAnd, dOr, dNot, dB, dAndT, dOrT, dNotT, dIf, dTup, dLst, dLstF, dFz, dItems, itemsD, dRg1, dRg2, dEnum, dZip, gZip, dCupGet, dCupSet, dNext, dRetN, dRaise, ends, start', nV, gI, gI0, DL.gSub, gMul, gFdiv, gMod, gPow, gAdd, gNeg, gLt, gLe, gGt, gGe, gEq, gNe, gIn, negB, gIs, isNonD, gIx, dIsi, isTy, tyD, gLen, gAbs, gInt, gTupL, gLenL, gSumL, gTuple, dComp, noOwn, S.own, CDiv, CMul, CPow, eqvD_int, eqvD_tup, eqvD_lst, okD_int, okD_tup, okD_lst, okD_tup0, okD_lst0, eqvD_tup0, eqvD_lst0, inF_int, flatD, flat_ints, imap_inj, and_assoc, exists_eq_left, exists_eq_left', dSl, dNoPart, dPart, gSl, gStr] at k ⊢
    exact k
  · refine ⟨ns.map fun n => decide (n ∈ ps), ?_, ?_⟩
    · rw [← unBls_map]; simp [List.map_map, Function.comp_def]
    · rw [List.all_map]; exact h
theorem h_can_in (T : Top K mg) : Has P w K mg base 1 "can_in" ["pipes", "tune"] false f_can_in := by
  obtain ⟨fd, Fd, hm⟩ := T.d_can_in
  exact D_has (k := 0) (N := ["pipes", "tune", "tone"]) (t := t_can_in) hm Fd sc_can_in (fun _ _ _ _ _ _ us hl => match us, hl with | [_, _], _ => rfl) (fun cd A outer s H E F B => (ss_one (s_ret (e_onL (cr_all B.toBd.calm) cl_all rfl T.m_all (by decide +kernel) (l_ofF (f_comp (tgt := (.nm 2)) [("tone", 2)] B.toBd sc_can_in.nd (by kernel_rfl) (by rfl) (i_seq (e_var 1)) (gt_nm 2) (fun _ _ _ _ _ => (pg_name sc_can_in.nd rfl (by first | exact Or.inl rfl | exact Or.inr rfl))) (fun _ _ _ _ _ => ts_nil) (fun _ _ _ _ _ => (e_cmp (opr_in B.toBd.blk.u1) opd_in (e_var 2) (e_var 0) rfl)))))))) len_can_in p_can_in
/-! can_play -/
theorem sc_can_play : FnScope ["pipes", "tune"] ["pipes", "tune"] (defScope s_can_play) := ⟨rfl, rfl, rfl, by decide +kernel, rfl, by decide +kernel, by decide +kernel⟩
def t_can_play : DS := (dSeq (dDrop (dCall f_need_both (dCons (dVar 0) (dCons (dVar 1) dNil))))
  (dRet (dCall f_can_in (dCons (dVar 0) (dCons (dVar 1) dNil)))))
def f_can_play : Φ := fun ds R _ => ∃ ps ns : List Int, ds = [iT ps, iT ns] ∧ okP ps ∧ okT ns ∧ R (.bl (ns.all fun n => decide (n ∈ ps)))
theorem len_can_play : ∀ ds R Z, f_can_play ds R Z → nV false ds = 2 := by rintro ds R Z ⟨ps, ns, rfl, _⟩; rfl
theorem p_can_play : ∀ ds R Z, f_can_play ds R Z → t_can_play (ends R Z) (start' 2 false ds) := by
  rintro ds R Z ⟨ps, ns, rfl, hp, ht, h⟩
  simp [t_can_play, f_need_both, f_can_in, dRet, dSeq, dIfS, dSet, dSetF, dDrop, dCall, dCallC, dArgs, dOn, dCons, dNil, dVar, dC, dBin, dChain, dUn, dAnd, dOr, dNot, dB, dAndT, dOrT, dNotT, dIf, dTup, dLst, dLstF, dFz, dItems, itemsD, dRg1, dRg2, dEnum, dZip, gZip, dCupGet, dCupSet, dNext, dRetN, dRaise, ends, start', nV, gI, gI0, DL.gSub, gMul, gFdiv, gMod, gPow, gAdd, gNeg, gLt, gLe, gGt, gGe, gEq, gNe, gIn, negB, gIs, isNonD, gIx, dIsi, isTy, tyD, gLen, gAbs, gInt, gTupL, gLenL, gSumL, gTuple, dComp, noOwn, S.own, CDiv, CMul, CPow, eqvD_int, eqvD_tup, eqvD_lst, okD_int, okD_tup, okD_lst, okD_tup0, okD_lst0, eqvD_tup0, eqvD_lst0, inF_int, flatD, flat_ints, imap_inj, and_assoc, exists_eq_left, exists_eq_left', dSl, dNoPart, dPart, gSl, gStr]
  exact ⟨hp, ht, by simpa using h⟩
theorem h_can_play (T : Top K mg) : Has P w K mg base 7 "can_play" ["pipes", "tune"] false f_can_play := by
  obtain ⟨fd, Fd, hm⟩ := T.d_can_play
  have h_need_both := h_need_both (P := P) (w := w) (base := base) T
  have h_can_in := h_can_in (P := P) (w := w) (base := base) T
  exact D_has (k := 6) (N := ["pipes", "tune"]) (t := t_can_play) hm Fd sc_can_play (fun _ _ _ _ _ _ us hl => match us, hl with | [_, _], _ => rfl) (fun cd A outer s H E F B => (ss_cons (s_expr (e_h h_need_both B.toBd (by decide) rfl (a_cons (e_var 0) (a_cons (e_var 1) a_nil))))
    (ss_one (s_ret (e_h h_can_in B.toBd (by decide) rfl (a_cons (e_var 0) (a_cons (e_var 1) a_nil))))))) len_can_play p_can_play
/-! lacks_in -/
theorem sc_lacks_in : FnScope ["pipes", "tune", "tone"] ["pipes", "tune"] (defScope s_lacks_in) := ⟨rfl, rfl, rfl, by decide +kernel, rfl, by decide +kernel, by decide +kernel⟩
def t_lacks_in : DS := (dRet (dOn gSS (dComp (dItems (dVar 1)) (.nm 2) (dB (dBin (negB gIn) (dVar 2) (dVar 0))) (dVar 2) [2])))
def f_lacks_in : Φ := fun ds R _ => ∃ ps ns : List Int, ds = [iT ps, iT ns] ∧ ns.length ≤ 4000 ∧ R (.lst (iL (sortU (ns.filter fun n => !decide (n ∈ ps)))))
theorem len_lacks_in : ∀ ds R Z, f_lacks_in ds R Z → nV false ds = 2 := by rintro ds R Z ⟨ps, ns, rfl, _⟩; rfl
theorem p_lacks_in : ∀ ds R Z, f_lacks_in ds R Z → t_lacks_in (ends R Z) (start' 3 false ds) := by
  rintro ds R Z ⟨ps, ns, rfl, hl, h⟩
  simp [t_lacks_in, dRet, dSeq, dIfS, dSet, dSetF, dDrop, dCall, dCallC, dArgs, dOn, dCons, dNil, dVar, dC, dBin, dChain, dUn, dAnd, dOr, dNot, dB, dAndT, dOrT, dNotT, dIf, dTup, dLst, dLstF, dFz, dItems, itemsD, dRg1, dRg2, dEnum, dZip, gZip, dCupGet, dCupSet, dNext, dRetN, dRaise, ends, start', nV, gI, gI0, DL.gSub, gMul, gFdiv, gMod, gPow, gAdd, gNeg, gLt, gLe, gGt, gGe, gEq, gNe, gIn, negB, gIs, isNonD, gIx, dIsi, isTy, tyD, gLen, gAbs, gInt, gTupL, gLenL, gSumL, gTuple, dComp, noOwn, S.own, CDiv, CMul, CPow, eqvD_int, eqvD_tup, eqvD_lst, okD_int, okD_tup, okD_lst, okD_tup0, okD_lst0, eqvD_tup0, eqvD_lst0, inF_int, flatD, flat_ints, imap_inj, and_assoc, exists_eq_left, exists_eq_left', dSl, dNoPart, dPart, gSl, gStr, gSS]
  refine compD_mapL _ (fun n => !decide (n ∈ ps)) D.int (fun p hp K1 K2 k1 k2 => ?_) ?_
  · simp [bindT, wipeS, dRet, dSeq, dIfS, dSet, dSetF, dDrop, dCall, dCallC, dArgs, dOn, dCons, dNil, dVar, dC, dBin, dChain, dUn, dAnd, dOr, dNot, dB, dAndT, dOrT, dNotT, dIf, dTup, dLst, dLstF, dFz, dItems, itemsD, dRg1, dRg2, dEnum, dZip, gZip, dCupGet, dCupSet, dNext, dRetN, dRaise, ends, start', nV, gI, gI0, DL.gSub, gMul, gFdiv, gMod, gPow, gAdd, gNeg, gLt, gLe, gGt, gGe, gEq, gNe, gIn, negB, gIs, isNonD, gIx, dIsi, isTy, tyD, gLen, gAbs, gInt, gTupL, gLenL, gSumL, gTuple, dComp, noOwn, S.own, CDiv, CMul, CPow, eqvD_int, eqvD_tup, eqvD_lst, okD_int, okD_tup, okD_lst, okD_tup0, okD_lst0, eqvD_tup0, eqvD_lst0, inF_int, flatD, flat_ints, imap_inj, and_assoc, exists_eq_left, exists_eq_left', dSl, dNoPart, dPart, gSl, gStr] at k1 k2 ⊢
    by_cases c : p ∈ ps
    · simp [c, k2]
    · simp [c, k1]
  · refine ⟨_, unInts_map _, ?_, h⟩
    have := List.length_filter_le (fun n => !decide (n ∈ ps)) ns
    omega
theorem h_lacks_in (T : Top K mg) : Has P w K mg base 1 "lacks_in" ["pipes", "tune"] false f_lacks_in := by
  obtain ⟨fd, Fd, hm⟩ := T.d_lacks_in
  exact D_has (k := 0) (N := ["pipes", "tune", "tone"]) (t := t_lacks_in) hm Fd sc_lacks_in (fun _ _ _ _ _ _ us hl => match us, hl with | [_, _], _ => rfl) (fun cd A outer s H E F B => (ss_one (s_ret (e_sortSetL B.toBd.calm rfl T.m_set rfl T.m_sorted (l_ofF (f_comp (tgt := (.nm 2)) [("tone", 2)] B.toBd sc_lacks_in.nd (by kernel_rfl) (by rfl) (i_seq (e_var 1)) (gt_nm 2) (fun _ _ _ _ _ => (pg_name sc_lacks_in.nd rfl (by first | exact Or.inl rfl | exact Or.inr rfl))) (fun _ _ _ _ _ => (ts_one (t_cmp (opr_notIn B.toBd.blk.u1) opd_notIn (e_var 2) (e_var 0) rfl))) (fun _ _ _ _ _ => (e_var 2)))))))) len_lacks_in p_lacks_in
/-! lacking -/
theorem sc_lacking : FnScope ["pipes", "tune"] ["pipes", "tune"] (defScope s_lacking) := ⟨rfl, rfl, rfl, by decide +kernel, rfl, by decide +kernel, by decide +kernel⟩
def t_lacking : DS := (dSeq (dDrop (dCall f_need_both (dCons (dVar 0) (dCons (dVar 1) dNil))))
  (dRet (dArgs gTuple (dCons (dCall f_lacks_in (dCons (dVar 0) (dCons (dVar 1) dNil))) dNil))))
def f_lacking : Φ := fun ds R _ => ∃ ps ns : List Int, ds = [iT ps, iT ns] ∧ okP ps ∧ okT ns ∧ R (iT (sortU (ns.filter fun n => !decide (n ∈ ps))))
theorem len_lacking : ∀ ds R Z, f_lacking ds R Z → nV false ds = 2 := by rintro ds R Z ⟨ps, ns, rfl, _⟩; rfl
theorem p_lacking : ∀ ds R Z, f_lacking ds R Z → t_lacking (ends R Z) (start' 2 false ds) := by
  rintro ds R Z ⟨ps, ns, rfl, hp, ht, h⟩
  have := ht.1
  simp [t_lacking, f_need_both, f_lacks_in, dRet, dSeq, dIfS, dSet, dSetF, dDrop, dCall, dCallC, dArgs, dOn, dCons, dNil, dVar, dC, dBin, dChain, dUn, dAnd, dOr, dNot, dB, dAndT, dOrT, dNotT, dIf, dTup, dLst, dLstF, dFz, dItems, itemsD, dRg1, dRg2, dEnum, dZip, gZip, dCupGet, dCupSet, dNext, dRetN, dRaise, ends, start', nV, gI, gI0, DL.gSub, gMul, gFdiv, gMod, gPow, gAdd, gNeg, gLt, gLe, gGt, gGe, gEq, gNe, gIn, negB, gIs, isNonD, gIx, dIsi, isTy, tyD, gLen, gAbs, gInt, gTupL, gLenL, gSumL, gTuple, dComp, noOwn, S.own, CDiv, CMul, CPow, eqvD_int, eqvD_tup, eqvD_lst, okD_int, okD_tup, okD_lst, okD_tup0, okD_lst0, eqvD_tup0, eqvD_lst0, inF_int, flatD, flat_ints, imap_inj, and_assoc, exists_eq_left, exists_eq_left', dSl, dNoPart, dPart, gSl, gStr]
  exact ⟨hp, ht, by omega, by simpa using h⟩
theorem h_lacking (T : Top K mg) : Has P w K mg base 7 "lacking" ["pipes", "tune"] false f_lacking := by
  obtain ⟨fd, Fd, hm⟩ := T.d_lacking
  have h_need_both := h_need_both (P := P) (w := w) (base := base) T
  have h_lacks_in := h_lacks_in (P := P) (w := w) (base := base) T
  exact D_has (k := 6) (N := ["pipes", "tune"]) (t := t_lacking) hm Fd sc_lacking (fun _ _ _ _ _ _ us hl => match us, hl with | [_, _], _ => rfl) (fun cd A outer s H E F B => (ss_cons (s_expr (e_h h_need_both B.toBd (by decide) rfl (a_cons (e_var 0) (a_cons (e_var 1) a_nil))))
    (ss_one (s_ret (e_callTy call_tupleF cd_tuple rfl T.m_tuple (by decide +kernel) (a_cons (e_h h_lacks_in B.toBd (by decide) rfl (a_cons (e_var 0) (a_cons (e_var 1) a_nil))) a_nil)))))) len_lacking p_lacking
/-! lost_places -/
theorem sc_lost_places : FnScope ["pipes", "tune", "at", "tone"] ["pipes", "tune"] (defScope s_lost_places) := ⟨rfl, rfl, rfl, by decide +kernel, rfl, by decide +kernel, by decide +kernel⟩
def t_lost_places : DS := (dSeq (dDrop (dCall f_need_both (dCons (dVar 0) (dCons (dVar 1) dNil))))
  (dRet (dOn gTupL (dComp (dEnum (dVar 1)) (.tp [2, 3]) (dB (dBin (negB gIn) (dVar 3) (dVar 0))) (dVar 2) [2, 3]))))
def f_lost_places : Φ := fun ds R _ => ∃ ps ns : List Int, ds = [iT ps, iT ns] ∧ okP ps ∧ okT ns ∧ R (iT (lostP ps ns))
theorem len_lost_places : ∀ ds R Z, f_lost_places ds R Z → nV false ds = 2 := by rintro ds R Z ⟨ps, ns, rfl, _⟩; rfl
theorem p_lost_places : ∀ ds R Z, f_lost_places ds R Z → t_lost_places (ends R Z) (start' 4 false ds) := by
  rintro ds R Z ⟨ps, ns, rfl, hp, ht, h⟩
  simp [t_lost_places, f_need_both, dRet, dSeq, dIfS, dSet, dSetF, dDrop, dCall, dCallC, dArgs, dOn, dCons, dNil, dVar, dC, dBin, dChain, dUn, dAnd, dOr, dNot, dB, dAndT, dOrT, dNotT, dIf, dTup, dLst, dLstF, dFz, dItems, itemsD, dRg1, dRg2, dEnum, dZip, gZip, dCupGet, dCupSet, dNext, dRetN, dRaise, ends, start', nV, gI, gI0, DL.gSub, gMul, gFdiv, gMod, gPow, gAdd, gNeg, gLt, gLe, gGt, gGe, gEq, gNe, gIn, negB, gIs, isNonD, gIx, dIsi, isTy, tyD, gLen, gAbs, gInt, gTupL, gLenL, gSumL, gTuple, dComp, noOwn, S.own, CDiv, CMul, CPow, eqvD_int, eqvD_tup, eqvD_lst, okD_int, okD_tup, okD_lst, okD_tup0, okD_lst0, eqvD_tup0, eqvD_lst0, inF_int, flatD, flat_ints, imap_inj, and_assoc, exists_eq_left, exists_eq_left', dSl, dNoPart, dPart, gSl, gStr]
  refine ⟨hp, ht, ?_⟩
  have e := enD_ints 0 ns
  simp only [iL] at e
  rw [e]
  refine compD_mapL _ (fun p : Int × Nat => !decide (p.1 ∈ ps)) (fun p => .int (p.2 : Nat)) (fun p hp K1 K2 k1 k2 => ?_) ?_
  · simp [bindT, setAll, wipeS, dRet, dSeq, dIfS, dSet, dSetF, dDrop, dCall, dCallC, dArgs, dOn, dCons, dNil, dVar, dC, dBin, dChain, dUn, dAnd, dOr, dNot, dB, dAndT, dOrT, dNotT, dIf, dTup, dLst, dLstF, dFz, dItems, itemsD, dRg1, dRg2, dEnum, dZip, gZip, dCupGet, dCupSet, dNext, dRetN, dRaise, ends, start', nV, gI, gI0, DL.gSub, gMul, gFdiv, gMod, gPow, gAdd, gNeg, gLt, gLe, gGt, gGe, gEq, gNe, gIn, negB, gIs, isNonD, gIx, dIsi, isTy, tyD, gLen, gAbs, gInt, gTupL, gLenL, gSumL, gTuple, dComp, noOwn, S.own, CDiv, CMul, CPow, eqvD_int, eqvD_tup, eqvD_lst, okD_int, okD_tup, okD_lst, okD_tup0, okD_lst0, eqvD_tup0, eqvD_lst0, inF_int, flatD, flat_ints, imap_inj, and_assoc, exists_eq_left, exists_eq_left', dSl, dNoPart, dPart, gSl, gStr] at k1 k2 ⊢
    by_cases c : p.1 ∈ ps
    · simp [c, k2]
    · simp [c, k1]
  · simpa [lostP, iT, List.map_map, Function.comp_def] using h
theorem h_lost_places (T : Top K mg) : Has P w K mg base 7 "lost_places" ["pipes", "tune"] false f_lost_places := by
  obtain ⟨fd, Fd, hm⟩ := T.d_lost_places
  have h_need_both := h_need_both (P := P) (w := w) (base := base) T
  exact D_has (k := 6) (N := ["pipes", "tune", "at", "tone"]) (t := t_lost_places) hm Fd sc_lost_places (fun _ _ _ _ _ _ us hl => match us, hl with | [_, _], _ => rfl) (fun cd A outer s H E F B => (ss_cons (s_expr (e_h h_need_both B.toBd (by decide) rfl (a_cons (e_var 0) (a_cons (e_var 1) a_nil))))
    (ss_one (s_ret (e_onLTy call_tupleF cl_tuple rfl T.m_tuple (by decide +kernel) (l_ofF (f_comp (tgt := (.tp [2, 3])) [("at", 2), ("tone", 3)] B.toBd sc_lost_places.nd (by kernel_rfl) (by rfl) (i_enum rfl T.m_enumerate (e_var 1)) (gt_tp [2, 3]) (fun _ _ _ _ _ => (pg_tup B.toBd.calm (pgs_cons (pg_name sc_lost_places.nd rfl (by first | exact Or.inl rfl | exact Or.inr rfl)) (pgs_cons (pg_name sc_lost_places.nd rfl (by first | exact Or.inl rfl | exact Or.inr rfl)) pgs_nil)))) (fun _ _ _ _ _ => (ts_one (t_cmp (opr_notIn B.toBd.blk.u1) opd_notIn (e_var 3) (e_var 0) rfl))) (fun _ _ _ _ _ => (e_var 2))))))))) len_lost_places p_lost_places
/-! moved -/
theorem sc_moved : FnScope ["tune", "steps", "tone"] ["tune", "steps"] (defScope s_moved) := ⟨rfl, rfl, rfl, by decide +kernel, rfl, by decide +kernel, by decide +kernel⟩
def t_moved : DS := (dRet (dFz (dComp (dItems (dVar 0)) (.nm 2) dYes (dBin gAdd (dVar 2) (dVar 1)) [2])))
def f_moved : Φ := fun ds R _ => ∃ (ns : List Int) (k : Int), ds = [iT ns, .int k] ∧ R (.lst (iL (ns.map fun n => n + k)))
theorem len_moved : ∀ ds R Z, f_moved ds R Z → nV false ds = 2 := by rintro ds R Z ⟨ps, ns, rfl, _⟩; rfl
theorem p_moved : ∀ ds R Z, f_moved ds R Z → t_moved (ends R Z) (start' 3 false ds) := by
  rintro ds R Z ⟨ns, k, rfl, h⟩
  simp [t_moved, dRet, dSeq, dIfS, dSet, dSetF, dDrop, dCall, dCallC, dArgs, dOn, dCons, dNil, dVar, dC, dBin, dChain, dUn, dAnd, dOr, dNot, dB, dAndT, dOrT, dNotT, dIf, dTup, dLst, dLstF, dFz, dItems, itemsD, dRg1, dRg2, dEnum, dZip, gZip, dCupGet, dCupSet, dNext, dRetN, dRaise, ends, start', nV, gI, gI0, DL.gSub, gMul, gFdiv, gMod, gPow, gAdd, gNeg, gLt, gLe, gGt, gGe, gEq, gNe, gIn, negB, gIs, isNonD, gIx, dIsi, isTy, tyD, gLen, gAbs, gInt, gTupL, gLenL, gSumL, gTuple, dComp, noOwn, S.own, CDiv, CMul, CPow, eqvD_int, eqvD_tup, eqvD_lst, okD_int, okD_tup, okD_lst, okD_tup0, okD_lst0, eqvD_tup0, eqvD_lst0, inF_int, flatD, flat_ints, imap_inj, and_assoc, exists_eq_left, exists_eq_left', dSl, dNoPart, dPart, gSl, gStr]
  refine compD_mapA _ (fun n => .int (n + k)) (fun p hp K1 k => ?_) ?_
  · simp [bindT, wipeS, dRet, dSeq, dIfS, dSet, dSetF, dDrop, dCall, dCallC, dArgs, dOn, dCons, dNil, dVar, dC, dBin, dChain, dUn, dAnd, dOr, dNot, dB, dAndT, dOrT, dNotT, dIf, dTup, dLst, dLstF, dFz, dItems, itemsD, dRg1, dRg2, dEnum, dZip, gZip, dCupGet, dCupSet, dNext, dRetN, dRaise, ends, start', nV, gI, gI0, DL.gSub, gMul, gFdiv, gMod, gPow, gAdd, gNeg, gLt, gLe, gGt, gGe, gEq, gNe, gIn, negB, gIs, isNonD, gIx, dIsi, isTy, tyD, gLen, gAbs, gInt, gTupL, gLenL, gSumL, gTuple, dComp, noOwn, S.own, CDiv, CMul, CPow, eqvD_int, eqvD_tup, eqvD_lst, okD_int, okD_tup, okD_lst, okD_tup0, okD_lst0, eqvD_tup0, eqvD_lst0, inF_int, flatD, flat_ints, imap_inj, and_assoc, exists_eq_left, exists_eq_left', dSl, dNoPart, dPart, gSl, gStr] at k ⊢
    exact k
  · simpa [iL, List.map_map, Function.comp_def] using h
theorem h_moved (T : Top K mg) : Has P w K mg base 1 "moved" ["tune", "steps"] false f_moved := by
  obtain ⟨fd, Fd, hm⟩ := T.d_moved
  exact D_has (k := 0) (N := ["tune", "steps", "tone"]) (t := t_moved) hm Fd sc_moved (fun _ _ _ _ _ _ us hl => match us, hl with | [_, _], _ => rfl) (fun cd A outer s H E F B => (ss_one (s_ret (e_fz (f_comp (tgt := (.nm 2)) [("tone", 2)] B.toBd sc_moved.nd (by kernel_rfl) (by rfl) (i_seq (e_var 0)) (gt_nm 2) (fun _ _ _ _ _ => (pg_name sc_moved.nd rfl (by first | exact Or.inl rfl | exact Or.inr rfl))) (fun _ _ _ _ _ => ts_nil) (fun _ _ _ _ _ => (e_bin opr_add opd_add (e_var 2) (e_var 1)))))))) len_moved p_moved
/-! shifted_pipes -/
theorem sc_shifted_pipes : FnScope ["pipes", "steps", "found"] ["pipes", "steps"] (defScope s_shifted_pipes) := ⟨rfl, rfl, rfl, by decide +kernel, rfl, by decide +kernel, by decide +kernel⟩
def t_shifted_pipes : DS := (dSeq (dDrop (dCall f_need_pipes (dCons (dVar 0) dNil)))
  (dSeq (dIfS (dNotT (dB (dCall f_fits_whole (dCons (dVar 1) (dCons (dUn gNeg (dC (.int 200))) (dCons (dC (.int 200)) dNil)))))) (dRaise "InvalidNumber") dNext)
  (dSeq (dSet 2 (dArgs gTuple (dCons (dCall f_moved (dCons (dVar 0) (dCons (dVar 1) dNil))) dNil)))
  (dSeq (dIfS (dNotT (dB (dCall f_fits_pipes (dCons (dVar 2) dNil)))) (dRaise "InvalidNumber") dNext)
  (dRet (dVar 2))))))
def f_shifted_pipes : Φ := fun ds R Z => ∃ (ns : List Int) (k : Int), ds = [iT ns, .int k] ∧ okP ns ∧ -200 ≤ k ∧ k ≤ 200 ∧ (if okP (ns.map fun n => n + k) then R (iT (ns.map fun n => n + k)) else Z "InvalidNumber")
theorem len_shifted_pipes : ∀ ds R Z, f_shifted_pipes ds R Z → nV false ds = 2 := by rintro ds R Z ⟨ps, ns, rfl, _⟩; rfl
theorem p_shifted_pipes : ∀ ds R Z, f_shifted_pipes ds R Z → t_shifted_pipes (ends R Z) (start' 3 false ds) := by
  rintro ds R Z ⟨ns, k, rfl, hp, h1, h2, h⟩
  have := hp.1
  simp [t_shifted_pipes, f_need_pipes, f_fits_whole, f_moved, f_fits_pipes, dRet, dSeq, dIfS, dSet, dSetF, dDrop, dCall, dCallC, dArgs, dOn, dCons, dNil, dVar, dC, dBin, dChain, dUn, dAnd, dOr, dNot, dB, dAndT, dOrT, dNotT, dIf, dTup, dLst, dLstF, dFz, dItems, itemsD, dRg1, dRg2, dEnum, dZip, gZip, dCupGet, dCupSet, dNext, dRetN, dRaise, ends, start', nV, gI, gI0, DL.gSub, gMul, gFdiv, gMod, gPow, gAdd, gNeg, gLt, gLe, gGt, gGe, gEq, gNe, gIn, negB, gIs, isNonD, gIx, dIsi, isTy, tyD, gLen, gAbs, gInt, gTupL, gLenL, gSumL, gTuple, dComp, noOwn, S.own, CDiv, CMul, CPow, eqvD_int, eqvD_tup, eqvD_lst, okD_int, okD_tup, okD_lst, okD_tup0, okD_lst0, eqvD_tup0, eqvD_lst0, inF_int, flatD, flat_ints, imap_inj, and_assoc, exists_eq_left, exists_eq_left', dSl, dNoPart, dPart, gSl, gStr]
  refine ⟨hp, ?_⟩
  rw [if_pos ⟨h1, h2⟩]
  refine ⟨ns.map fun n => n + k, by simp, by simp; omega, ?_⟩
  simpa [iT, List.map_map] using h
theorem h_shifted_pipes (T : Top K mg) : Has P w K mg base 6 "shifted_pipes" ["pipes", "steps"] false f_shifted_pipes := by
  obtain ⟨fd, Fd, hm⟩ := T.d_shifted_pipes
  have h_fits_whole := h_fits_whole (P := P) (w := w) (base := base) T
  have h_fits_pipes := h_fits_pipes (P := P) (w := w) (base := base) T
  have h_need_pipes := h_need_pipes (P := P) (w := w) (base := base) T
  have h_moved := h_moved (P := P) (w := w) (base := base) T
  exact D_has (k := 5) (N := ["pipes", "steps", "found"]) (t := t_shifted_pipes) hm Fd sc_shifted_pipes (fun _ _ _ _ _ _ us hl => match us, hl with | [_, _], _ => rfl) (fun cd A outer s H E F B => (ss_cons (s_expr (e_h h_need_pipes B.toBd (by decide) rfl (a_cons (e_var 0) a_nil)))
    (ss_cons (s_if (t_not (t_val (e_h h_fits_whole B.toBd (by decide) rfl (a_cons (e_var 1) (a_cons (e_neg (e_gi T.c_SHIFT rfl)) (a_cons (e_gi T.c_SHIFT rfl) a_nil)))))) (ss_one (s_raiseV T.x_InvalidNumber B rfl)) ss_nil)
    (ss_cons (s_set 2 sc_shifted_pipes.nd rfl (by first | exact Or.inl rfl | exact Or.inr rfl) (e_callTy call_tupleF cd_tuple rfl T.m_tuple (by decide +kernel) (a_cons (e_h h_moved B.toBd (by decide) rfl (a_cons (e_var 0) (a_cons (e_var 1) a_nil))) a_nil)))
    (ss_cons (s_if (t_not (t_val (e_h h_fits_pipes B.toBd (by decide) rfl (a_cons (e_var 2) a_nil)))) (ss_one (s_raiseV T.x_InvalidNumber B rfl)) ss_nil)
    (ss_one (s_ret (e_var 2)))))))) len_shifted_pipes p_shifted_pipes
/-! is_pipes -/
theorem sc_is_pipes : FnScope ["value"] ["value"] (defScope s_is_pipes) := ⟨rfl, rfl, rfl, by decide +kernel, rfl, by decide +kernel, by decide +kernel⟩
def t_is_pipes : DS := (dRet (dCall f_fits_pipes (dCons (dVar 0) dNil)))
def f_is_pipes : Φ := fun ds R _ => ∃ ns : List Int, ds = [iT ns] ∧ okP ns ∧ R (.bl true)
theorem len_is_pipes : ∀ ds R Z, f_is_pipes ds R Z → nV false ds = 1 := by rintro ds R Z ⟨ns, rfl, _⟩; rfl
theorem p_is_pipes : ∀ ds R Z, f_is_pipes ds R Z → t_is_pipes (ends R Z) (start' 1 false ds) := by
  rintro ds R Z ⟨ns, rfl, hp, h⟩
  have := hp.1
  simp [t_is_pipes, f_fits_pipes, dRet, dSeq, dIfS, dSet, dSetF, dDrop, dCall, dCallC, dArgs, dOn, dCons, dNil, dVar, dC, dBin, dChain, dUn, dAnd, dOr, dNot, dB, dAndT, dOrT, dNotT, dIf, dTup, dLst, dLstF, dFz, dItems, itemsD, dRg1, dRg2, dEnum, dZip, gZip, dCupGet, dCupSet, dNext, dRetN, dRaise, ends, start', nV, gI, gI0, DL.gSub, gMul, gFdiv, gMod, gPow, gAdd, gNeg, gLt, gLe, gGt, gGe, gEq, gNe, gIn, negB, gIs, isNonD, gIx, dIsi, isTy, tyD, gLen, gAbs, gInt, gTupL, gLenL, gSumL, gTuple, dComp, noOwn, S.own, CDiv, CMul, CPow, eqvD_int, eqvD_tup, eqvD_lst, okD_int, okD_tup, okD_lst, okD_tup0, okD_lst0, eqvD_tup0, eqvD_lst0, inF_int, flatD, flat_ints, imap_inj, and_assoc, exists_eq_left, exists_eq_left', dSl, dNoPart, dPart, gSl, gStr]
  exact ⟨by omega, by simp [hp, h]⟩
theorem h_is_pipes (T : Top K mg) : Has P w K mg base 5 "is_pipes" ["value"] false f_is_pipes := by
  obtain ⟨fd, Fd, hm⟩ := T.d_is_pipes
  have h_fits_pipes := h_fits_pipes (P := P) (w := w) (base := base) T
  exact D_has (k := 4) (N := ["value"]) (t := t_is_pipes) hm Fd sc_is_pipes (fun _ _ _ _ _ _ us hl => match us, hl with | [_], _ => rfl) (fun cd A outer s H E F B => (ss_one (s_ret (e_h h_fits_pipes B.toBd (by decide) rfl (a_cons (e_var 0) a_nil))))) len_is_pipes p_is_pipes
/-! longest_played -/
theorem sc_longest_played : FnScope ["pipes", "tune", "best", "now", "at", "tone"] ["pipes", "tune"] (defScope s_longest_played) := ⟨rfl, rfl, rfl, by decide +kernel, rfl, by decide +kernel, by decide +kernel⟩
def t_longest_played : DS := (dSeq (dDrop (dCall f_need_both (dCons (dVar 0) (dCons (dVar 1) dNil))))
  (dSeq (dAsg (.tp [2, 3]) (dTup (dCons (dTup (dCons (dC (.int 0)) (dCons (dC (.int 0)) dNil))) (dCons (dTup (dCons (dC (.int 0)) (dCons (dC (.int 0)) dNil))) dNil))))
  (dSeq (dFor (dEnum (dVar 1)) (.tp [4, 5]) (dSeq (dSet 3 (dIf (dB (dBin gIn (dVar 5) (dVar 0))) (dTup (dCons (dBin gIx (dVar 3) (dC (.int 0))) (dCons (dBin gAdd (dBin gIx (dVar 3) (dC (.int 1))) (dC (.int 1))) dNil))) (dTup (dCons (dBin gAdd (dVar 4) (dC (.int 1))) (dCons (dC (.int 0)) dNil)))))
  (dSet 2 (dIf (dB (dBin gGt (dBin gIx (dVar 3) (dC (.int 1))) (dBin gIx (dVar 2) (dC (.int 1))))) (dVar 3) (dVar 2)))))
  (dRet (dVar 2)))))
def f_longest_played : Φ := fun ds R _ => ∃ ps ns : List Int, ds = [iT ps, iT ns] ∧ okP ps ∧ okT ns ∧ R (iT [(longF ps ns 0 (0, 0) (0, 0)).1, (longF ps ns 0 (0, 0) (0, 0)).2])
theorem len_longest_played : ∀ ds R Z, f_longest_played ds R Z → nV false ds = 2 := by rintro ds R Z ⟨ps, ns, rfl, _⟩; rfl
theorem p_longest_played : ∀ ds R Z, f_longest_played ds R Z → t_longest_played (ends R Z) (start' 6 false ds) := by
  rintro ds R Z ⟨ps, ns, rfl, hp, ht, h⟩
  simp [t_longest_played, f_need_both, dRet, dSeq, dIfS, dSet, dSetF, dDrop, dCall, dCallC, dArgs, dOn, dCons, dNil, dVar, dC, dBin, dChain, dUn, dAnd, dOr, dNot, dB, dAndT, dOrT, dNotT, dIf, dTup, dLst, dLstF, dFz, dItems, itemsD, dRg1, dRg2, dEnum, dZip, gZip, dCupGet, dCupSet, dNext, dRetN, dRaise, ends, start', nV, gI, gI0, DL.gSub, gMul, gFdiv, gMod, gPow, gAdd, gNeg, gLt, gLe, gGt, gGe, gEq, gNe, gIn, negB, gIs, isNonD, gIx, dIsi, isTy, tyD, gLen, gAbs, gInt, gTupL, gLenL, gSumL, gTuple, dComp, noOwn, S.own, CDiv, CMul, CPow, eqvD_int, eqvD_tup, eqvD_lst, okD_int, okD_tup, okD_lst, okD_tup0, okD_lst0, eqvD_tup0, eqvD_lst0, inF_int, flatD, flat_ints, imap_inj, and_assoc, exists_eq_left, exists_eq_left', dSl, dNoPart, dPart, gSl, gStr, dAsg, bindT, setAll, dFor]
  refine ⟨hp, ht, by rw [sizeLine_eq]; omega, ?_⟩
  suffices key : ∀ (r : List Int) (n : Nat) (b nw : Int × Int) (x y : S), R (iT [(longF ps r n b nw).1, (longF ps r n b nw).2]) → forD (Tg.tp [4, 5]) _ _ (enD n (iL r)) [S.im (iT ps), S.im (iT ns), S.im (D.tup [D.int b.1, D.int b.2]), S.im (D.tup [D.int nw.1, D.int nw.2]), x, y] from key ns 0 (0, 0) (0, 0) .un .un h
  intro r
  induction r with
  | nil => intro n b nw x y h; simpa [enD, forD, dRet, dSeq, dIfS, dSet, dSetF, dDrop, dCall, dCallC, dArgs, dOn, dCons, dNil, dVar, dC, dBin, dChain, dUn, dAnd, dOr, dNot, dB, dAndT, dOrT, dNotT, dIf, dTup, dLst, dLstF, dFz, dItems, itemsD, dRg1, dRg2, dEnum, dZip, gZip, dCupGet, dCupSet, dNext, dRetN, dRaise, ends, start', nV, gI, gI0, DL.gSub, gMul, gFdiv, gMod, gPow, gAdd, gNeg, gLt, gLe, gGt, gGe, gEq, gNe, gIn, negB, gIs, isNonD, gIx, dIsi, isTy, tyD, gLen, gAbs, gInt, gTupL, gLenL, gSumL, gTuple, dComp, noOwn, S.own, CDiv, CMul, CPow, eqvD_int, eqvD_tup, eqvD_lst, okD_int, okD_tup, okD_lst, okD_tup0, okD_lst0, eqvD_tup0, eqvD_lst0, inF_int, flatD, flat_ints, imap_inj, and_assoc, exists_eq_left, exists_eq_left', dSl, dNoPart, dPart, gSl, gStr, longF, iT] using h
  | cons v r ih =>
    intro n b nw x y h
    simp only [iL, List.map_cons, enD, forD, bindT]
    refine ⟨_, _, rfl, rfl, ?_⟩
    have e : ((n : Nat) : Int) + 1 = ((n + 1 : Nat) : Int) := by omega
    by_cases c : v ∈ ps
    · simp only [longF, c, if_true] at h
      by_cases c2 : nw.2 + 1 > b.2
      · rw [if_pos c2, e] at h
        have q := ih (n + 1) (nw.1, nw.2 + 1) (nw.1, nw.2 + 1) (.im (.int n)) (.im (.int v)) h
        have c3 : b.2 < nw.2 + 1 := c2
        have s2 : 2 ≤ sizeLine := by rw [sizeLine_eq]; omega
        simp [dRet, dSeq, dIfS, dSet, dSetF, dDrop, dCall, dCallC, dArgs, dOn, dCons, dNil, dVar, dC, dBin, dChain, dUn, dAnd, dOr, dNot, dB, dAndT, dOrT, dNotT, dIf, dTup, dLst, dLstF, dFz, dItems, itemsD, dRg1, dRg2, dEnum, dZip, gZip, dCupGet, dCupSet, dNext, dRetN, dRaise, ends, start', nV, gI, gI0, DL.gSub, gMul, gFdiv, gMod, gPow, gAdd, gNeg, gLt, gLe, gGt, gGe, gEq, gNe, gIn, negB, gIs, isNonD, gIx, dIsi, isTy, tyD, gLen, gAbs, gInt, gTupL, gLenL, gSumL, gTuple, dComp, noOwn, S.own, CDiv, CMul, CPow, eqvD_int, eqvD_tup, eqvD_lst, okD_int, okD_tup, okD_lst, okD_tup0, okD_lst0, eqvD_tup0, eqvD_lst0, inF_int, flatD, flat_ints, imap_inj, and_assoc, exists_eq_left, exists_eq_left', dSl, dNoPart, dPart, gSl, gStr, c, atI0, L2.atI, L2.ixN, s2, c3]
        simpa [dRet, dSeq, dIfS, dSet, dSetF, dDrop, dCall, dCallC, dArgs, dOn, dCons, dNil, dVar, dC, dBin, dChain, dUn, dAnd, dOr, dNot, dB, dAndT, dOrT, dNotT, dIf, dTup, dLst, dLstF, dFz, dItems, itemsD, dRg1, dRg2, dEnum, dZip, gZip, dCupGet, dCupSet, dNext, dRetN, dRaise, ends, start', nV, gI, gI0, DL.gSub, gMul, gFdiv, gMod, gPow, gAdd, gNeg, gLt, gLe, gGt, gGe, gEq, gNe, gIn, negB, gIs, isNonD, gIx, dIsi, isTy, tyD, gLen, gAbs, gInt, gTupL, gLenL, gSumL, gTuple, dComp, noOwn, S.own, CDiv, CMul, CPow, eqvD_int, eqvD_tup, eqvD_lst, okD_int, okD_tup, okD_lst, okD_tup0, okD_lst0, eqvD_tup0, eqvD_lst0, inF_int, flatD, flat_ints, imap_inj, and_assoc, exists_eq_left, exists_eq_left', dSl, dNoPart, dPart, gSl, gStr] using q
      · rw [if_neg c2, e] at h
        have q := ih (n + 1) b (nw.1, nw.2 + 1) (.im (.int n)) (.im (.int v)) h
        have c3 : ¬ b.2 < nw.2 + 1 := c2
        have s2 : 2 ≤ sizeLine := by rw [sizeLine_eq]; omega
        simp [dRet, dSeq, dIfS, dSet, dSetF, dDrop, dCall, dCallC, dArgs, dOn, dCons, dNil, dVar, dC, dBin, dChain, dUn, dAnd, dOr, dNot, dB, dAndT, dOrT, dNotT, dIf, dTup, dLst, dLstF, dFz, dItems, itemsD, dRg1, dRg2, dEnum, dZip, gZip, dCupGet, dCupSet, dNext, dRetN, dRaise, ends, start', nV, gI, gI0, DL.gSub, gMul, gFdiv, gMod, gPow, gAdd, gNeg, gLt, gLe, gGt, gGe, gEq, gNe, gIn, negB, gIs, isNonD, gIx, dIsi, isTy, tyD, gLen, gAbs, gInt, gTupL, gLenL, gSumL, gTuple, dComp, noOwn, S.own, CDiv, CMul, CPow, eqvD_int, eqvD_tup, eqvD_lst, okD_int, okD_tup, okD_lst, okD_tup0, okD_lst0, eqvD_tup0, eqvD_lst0, inF_int, flatD, flat_ints, imap_inj, and_assoc, exists_eq_left, exists_eq_left', dSl, dNoPart, dPart, gSl, gStr, c, atI0, L2.atI, L2.ixN, s2, c3]
        simpa [dRet, dSeq, dIfS, dSet, dSetF, dDrop, dCall, dCallC, dArgs, dOn, dCons, dNil, dVar, dC, dBin, dChain, dUn, dAnd, dOr, dNot, dB, dAndT, dOrT, dNotT, dIf, dTup, dLst, dLstF, dFz, dItems, itemsD, dRg1, dRg2, dEnum, dZip, gZip, dCupGet, dCupSet, dNext, dRetN, dRaise, ends, start', nV, gI, gI0, DL.gSub, gMul, gFdiv, gMod, gPow, gAdd, gNeg, gLt, gLe, gGt, gGe, gEq, gNe, gIn, negB, gIs, isNonD, gIx, dIsi, isTy, tyD, gLen, gAbs, gInt, gTupL, gLenL, gSumL, gTuple, dComp, noOwn, S.own, CDiv, CMul, CPow, eqvD_int, eqvD_tup, eqvD_lst, okD_int, okD_tup, okD_lst, okD_tup0, okD_lst0, eqvD_tup0, eqvD_lst0, inF_int, flatD, flat_ints, imap_inj, and_assoc, exists_eq_left, exists_eq_left', dSl, dNoPart, dPart, gSl, gStr] using q
    · simp only [longF, c, if_false] at h
      by_cases c2 : (0 : Int) > b.2
      · rw [if_pos c2, e] at h
        have q := ih (n + 1) (((n + 1 : Nat) : Int), 0) (((n + 1 : Nat) : Int), 0) (.im (.int n)) (.im (.int v)) h
        have c3 : b.2 < 0 := c2
        have s2 : 2 ≤ sizeLine := by rw [sizeLine_eq]; omega
        simp [dRet, dSeq, dIfS, dSet, dSetF, dDrop, dCall, dCallC, dArgs, dOn, dCons, dNil, dVar, dC, dBin, dChain, dUn, dAnd, dOr, dNot, dB, dAndT, dOrT, dNotT, dIf, dTup, dLst, dLstF, dFz, dItems, itemsD, dRg1, dRg2, dEnum, dZip, gZip, dCupGet, dCupSet, dNext, dRetN, dRaise, ends, start', nV, gI, gI0, DL.gSub, gMul, gFdiv, gMod, gPow, gAdd, gNeg, gLt, gLe, gGt, gGe, gEq, gNe, gIn, negB, gIs, isNonD, gIx, dIsi, isTy, tyD, gLen, gAbs, gInt, gTupL, gLenL, gSumL, gTuple, dComp, noOwn, S.own, CDiv, CMul, CPow, eqvD_int, eqvD_tup, eqvD_lst, okD_int, okD_tup, okD_lst, okD_tup0, okD_lst0, eqvD_tup0, eqvD_lst0, inF_int, flatD, flat_ints, imap_inj, and_assoc, exists_eq_left, exists_eq_left', dSl, dNoPart, dPart, gSl, gStr, c, atI0, L2.atI, L2.ixN, s2, c3]
        simpa [dRet, dSeq, dIfS, dSet, dSetF, dDrop, dCall, dCallC, dArgs, dOn, dCons, dNil, dVar, dC, dBin, dChain, dUn, dAnd, dOr, dNot, dB, dAndT, dOrT, dNotT, dIf, dTup, dLst, dLstF, dFz, dItems, itemsD, dRg1, dRg2, dEnum, dZip, gZip, dCupGet, dCupSet, dNext, dRetN, dRaise, ends, start', nV, gI, gI0, DL.gSub, gMul, gFdiv, gMod, gPow, gAdd, gNeg, gLt, gLe, gGt, gGe, gEq, gNe, gIn, negB, gIs, isNonD, gIx, dIsi, isTy, tyD, gLen, gAbs, gInt, gTupL, gLenL, gSumL, gTuple, dComp, noOwn, S.own, CDiv, CMul, CPow, eqvD_int, eqvD_tup, eqvD_lst, okD_int, okD_tup, okD_lst, okD_tup0, okD_lst0, eqvD_tup0, eqvD_lst0, inF_int, flatD, flat_ints, imap_inj, and_assoc, exists_eq_left, exists_eq_left', dSl, dNoPart, dPart, gSl, gStr] using q
      · rw [if_neg c2, e] at h
        have q := ih (n + 1) b (((n + 1 : Nat) : Int), 0) (.im (.int n)) (.im (.int v)) h
        have c3 : ¬ b.2 < 0 := c2
        have s2 : 2 ≤ sizeLine := by rw [sizeLine_eq]; omega
        simp [dRet, dSeq, dIfS, dSet, dSetF, dDrop, dCall, dCallC, dArgs, dOn, dCons, dNil, dVar, dC, dBin, dChain, dUn, dAnd, dOr, dNot, dB, dAndT, dOrT, dNotT, dIf, dTup, dLst, dLstF, dFz, dItems, itemsD, dRg1, dRg2, dEnum, dZip, gZip, dCupGet, dCupSet, dNext, dRetN, dRaise, ends, start', nV, gI, gI0, DL.gSub, gMul, gFdiv, gMod, gPow, gAdd, gNeg, gLt, gLe, gGt, gGe, gEq, gNe, gIn, negB, gIs, isNonD, gIx, dIsi, isTy, tyD, gLen, gAbs, gInt, gTupL, gLenL, gSumL, gTuple, dComp, noOwn, S.own, CDiv, CMul, CPow, eqvD_int, eqvD_tup, eqvD_lst, okD_int, okD_tup, okD_lst, okD_tup0, okD_lst0, eqvD_tup0, eqvD_lst0, inF_int, flatD, flat_ints, imap_inj, and_assoc, exists_eq_left, exists_eq_left', dSl, dNoPart, dPart, gSl, gStr, c, atI0, L2.atI, L2.ixN, s2, c3]
        simpa [dRet, dSeq, dIfS, dSet, dSetF, dDrop, dCall, dCallC, dArgs, dOn, dCons, dNil, dVar, dC, dBin, dChain, dUn, dAnd, dOr, dNot, dB, dAndT, dOrT, dNotT, dIf, dTup, dLst, dLstF, dFz, dItems, itemsD, dRg1, dRg2, dEnum, dZip, gZip, dCupGet, dCupSet, dNext, dRetN, dRaise, ends, start', nV, gI, gI0, DL.gSub, gMul, gFdiv, gMod, gPow, gAdd, gNeg, gLt, gLe, gGt, gGe, gEq, gNe, gIn, negB, gIs, isNonD, gIx, dIsi, isTy, tyD, gLen, gAbs, gInt, gTupL, gLenL, gSumL, gTuple, dComp, noOwn, S.own, CDiv, CMul, CPow, eqvD_int, eqvD_tup, eqvD_lst, okD_int, okD_tup, okD_lst, okD_tup0, okD_lst0, eqvD_tup0, eqvD_lst0, inF_int, flatD, flat_ints, imap_inj, and_assoc, exists_eq_left, exists_eq_left', dSl, dNoPart, dPart, gSl, gStr] using q
theorem h_longest_played (T : Top K mg) : Has P w K mg base 7 "longest_played" ["pipes", "tune"] false f_longest_played := by
  obtain ⟨fd, Fd, hm⟩ := T.d_longest_played
  have h_need_both := h_need_both (P := P) (w := w) (base := base) T
  exact D_has (k := 6) (N := ["pipes", "tune", "best", "now", "at", "tone"]) (t := t_longest_played) hm Fd sc_longest_played (fun _ _ _ _ _ _ us hl => match us, hl with | [_, _], _ => rfl) (fun cd A outer s H E F B => (ss_cons (s_expr (e_h h_need_both B.toBd (by decide) rfl (a_cons (e_var 0) (a_cons (e_var 1) a_nil))))
    (ss_cons (s_asg (tg := (.tp [2, 3])) (pr := false) (e_tup (a_cons (e_tup (a_cons e_int (a_cons e_int a_nil))) (a_cons (e_tup (a_cons e_int (a_cons e_int a_nil))) a_nil))) (pg_tup B.toBd.calm (pgs_cons (pg_name sc_longest_played.nd rfl (by first | exact Or.inl rfl | exact Or.inr rfl)) (pgs_cons (pg_name sc_longest_played.nd rfl (by first | exact Or.inl rfl | exact Or.inr rfl)) pgs_nil))) (gt_tp [2, 3]))
    (ss_cons (s_for (tgt := (.tp [4, 5])) B.own B.toBd.calm (i_enum rfl T.m_enumerate (e_var 1)) (gt_tp [4, 5]) (pg_tup B.toBd.calm (pgs_cons (pg_name sc_longest_played.nd rfl (by first | exact Or.inl rfl | exact Or.inr rfl)) (pgs_cons (pg_name sc_longest_played.nd rfl (by first | exact Or.inl rfl | exact Or.inr rfl)) pgs_nil))) (ss_cons (s_set 3 sc_longest_played.nd rfl (by first | exact Or.inl rfl | exact Or.inr rfl) (e_if (t_cmp (opr_in B.toBd.u1) opd_in (e_var 5) (e_var 0) rfl) (e_tup (a_cons (e_ix (e_var 3) e_int) (a_cons (e_bin opr_add opd_add (e_ix (e_var 3) e_int) e_int) a_nil))) (e_tup (a_cons (e_bin opr_add opd_add (e_var 4) e_int) (a_cons e_int a_nil)))))
    (ss_one (s_set 2 sc_longest_played.nd rfl (by first | exact Or.inl rfl | exact Or.inr rfl) (e_if (t_cmp op_gt opd_B0 (e_ix (e_var 3) e_int) (e_ix (e_var 2) e_int) rfl) (e_var 3) (e_var 2))))))
    (ss_one (s_ret (e_var 2))))))) len_longest_played p_longest_played
/-! turn_counts -/
theorem sc_turn_counts : FnScope ["pipes", "tune", "pipe"] ["pipes", "tune"] (defScope s_turn_counts) := ⟨rfl, rfl, rfl, by decide +kernel, rfl, by decide +kernel, by decide +kernel⟩
def t_turn_counts : DS := (dSeq (dDrop (dCall f_need_both (dCons (dVar 0) (dCons (dVar 1) dNil))))
  (dRet (dOn gTupL (dComp (dItems (dVar 0)) (.nm 2) dYes (dCount (dVar 1) (dVar 2)) [2]))))
theorem countP_ints (p : Int) (ns : List Int) : (iL ns).countP (fun y => eqvD y (.int p)) = ns.count p := by
  rw [List.countP_map, List.count]
  congr 1
theorem plain_ints (ns : List Int) : PyData.plainAll ((iL ns).map pyD) = true := by
  induction ns with
  | nil => rfl
  | cons n ns ih =>
    simp [iL] at ih
    simp [iL, pyD, PyData.plainAll, PyData.plain, ih]
def f_turn_counts : Φ := fun ds R _ => ∃ ps ns : List Int, ds = [iT ps, iT ns] ∧ okP ps ∧ okT ns ∧ R (iT (ps.map fun p => (ns.count p : Int)))
theorem len_turn_counts : ∀ ds R Z, f_turn_counts ds R Z → nV false ds = 2 := by rintro ds R Z ⟨ps, ns, rfl, _⟩; rfl
theorem p_turn_counts : ∀ ds R Z, f_turn_counts ds R Z → t_turn_counts (ends R Z) (start' 3 false ds) := by
  rintro ds R Z ⟨ps, ns, rfl, hp, ht, h⟩
  simp [t_turn_counts, f_need_both, dRet, dSeq, dIfS, dSet, dSetF, dDrop, dCall, dCallC, dArgs, dOn, dCons, dNil, dVar, dC, dBin, dChain, dUn, dAnd, dOr, dNot, dB, dAndT, dOrT, dNotT, dIf, dTup, dLst, dLstF, dFz, dItems, itemsD, dRg1, dRg2, dEnum, dZip, gZip, dCupGet, dCupSet, dNext, dRetN, dRaise, ends, start', nV, gI, gI0, DL.gSub, gMul, gFdiv, gMod, gPow, gAdd, gNeg, gLt, gLe, gGt, gGe, gEq, gNe, gIn, negB, gIs, isNonD, gIx, dIsi, isTy, tyD, gLen, gAbs, gInt, gTupL, gLenL, gSumL, gTuple, dComp, noOwn, S.own, CDiv, CMul, CPow, eqvD_int, eqvD_tup, eqvD_lst, okD_int, okD_tup, okD_lst, okD_tup0, okD_lst0, eqvD_tup0, eqvD_lst0, inF_int, flatD, flat_ints, imap_inj, and_assoc, exists_eq_left, exists_eq_left', dSl, dNoPart, dPart, gSl, gStr]
  refine ⟨hp, ht, ?_⟩
  refine compD_mapA _ (fun p => .int (ns.count p : Nat)) (fun p hp K1 k => ?_) (by simpa [iT, List.map_map, Function.comp_def] using h)
  have e1 := countP_ints p ns
  have e2 := plain_ints ns
  simp [iL] at e1 e2
  simp [bindT, wipeS, dRet, dSeq, dIfS, dSet, dSetF, dDrop, dCall, dCallC, dArgs, dOn, dCons, dNil, dVar, dC, dBin, dChain, dUn, dAnd, dOr, dNot, dB, dAndT, dOrT, dNotT, dIf, dTup, dLst, dLstF, dFz, dItems, itemsD, dRg1, dRg2, dEnum, dZip, gZip, dCupGet, dCupSet, dNext, dRetN, dRaise, ends, start', nV, gI, gI0, DL.gSub, gMul, gFdiv, gMod, gPow, gAdd, gNeg, gLt, gLe, gGt, gGe, gEq, gNe, gIn, negB, gIs, isNonD, gIx, dIsi, isTy, tyD, gLen, gAbs, gInt, gTupL, gLenL, gSumL, gTuple, dComp, noOwn, S.own, CDiv, CMul, CPow, eqvD_int, eqvD_tup, eqvD_lst, okD_int, okD_tup, okD_lst, okD_tup0, okD_lst0, eqvD_tup0, eqvD_lst0, inF_int, flatD, flat_ints, imap_inj, and_assoc, exists_eq_left, exists_eq_left', dSl, dNoPart, dPart, gSl, gStr, dCount, iL, e1, e2, okD_int, pyD, PyData.plain, PyData.depth]
  exact k
theorem h_turn_counts (T : Top K mg) : Has P w K mg base 7 "turn_counts" ["pipes", "tune"] false f_turn_counts := by
  obtain ⟨fd, Fd, hm⟩ := T.d_turn_counts
  have h_need_both := h_need_both (P := P) (w := w) (base := base) T
  exact D_has (k := 6) (N := ["pipes", "tune", "pipe"]) (t := t_turn_counts) hm Fd sc_turn_counts (fun _ _ _ _ _ _ us hl => match us, hl with | [_, _], _ => rfl) (fun cd A outer s H E F B => (ss_cons (s_expr (e_h h_need_both B.toBd (by decide) rfl (a_cons (e_var 0) (a_cons (e_var 1) a_nil))))
    (ss_one (s_ret (e_onLTy call_tupleF cl_tuple rfl T.m_tuple (by decide +kernel) (l_ofF (f_comp (tgt := (.nm 2)) [("pipe", 2)] B.toBd sc_turn_counts.nd (by kernel_rfl) (by rfl) (i_seq (e_var 0)) (gt_nm 2) (fun _ _ _ _ _ => (pg_name sc_turn_counts.nd rfl (by first | exact Or.inl rfl | exact Or.inr rfl))) (fun _ _ _ _ _ => ts_nil) (fun _ _ _ _ _ => (e_count B.toBd.blk.u (e_var 1) (e_var 2)))))))))) len_turn_counts p_turn_counts
/-! idle_pipes -/
theorem sc_idle_pipes : FnScope ["pipes", "tune", "pipe"] ["pipes", "tune"] (defScope s_idle_pipes) := ⟨rfl, rfl, rfl, by decide +kernel, rfl, by decide +kernel, by decide +kernel⟩
def t_idle_pipes : DS := (dSeq (dDrop (dCall f_need_both (dCons (dVar 0) (dCons (dVar 1) dNil))))
  (dRet (dOn gTupL (dComp (dItems (dVar 0)) (.nm 2) (dB (dBin (negB gIn) (dVar 2) (dVar 1))) (dVar 2) [2]))))
def f_idle_pipes : Φ := fun ds R _ => ∃ ps ns : List Int, ds = [iT ps, iT ns] ∧ okP ps ∧ okT ns ∧ R (iT (ps.filter fun n => !decide (n ∈ ns)))
theorem len_idle_pipes : ∀ ds R Z, f_idle_pipes ds R Z → nV false ds = 2 := by rintro ds R Z ⟨ps, ns, rfl, _⟩; rfl
theorem p_idle_pipes : ∀ ds R Z, f_idle_pipes ds R Z → t_idle_pipes (ends R Z) (start' 3 false ds) := by
  rintro ds R Z ⟨ps, ns, rfl, hp, ht, h⟩
  simp [t_idle_pipes, f_need_both, dRet, dSeq, dIfS, dSet, dSetF, dDrop, dCall, dCallC, dArgs, dOn, dCons, dNil, dVar, dC, dBin, dChain, dUn, dAnd, dOr, dNot, dB, dAndT, dOrT, dNotT, dIf, dTup, dLst, dLstF, dFz, dItems, itemsD, dRg1, dRg2, dEnum, dZip, gZip, dCupGet, dCupSet, dNext, dRetN, dRaise, ends, start', nV, gI, gI0, DL.gSub, gMul, gFdiv, gMod, gPow, gAdd, gNeg, gLt, gLe, gGt, gGe, gEq, gNe, gIn, negB, gIs, isNonD, gIx, dIsi, isTy, tyD, gLen, gAbs, gInt, gTupL, gLenL, gSumL, gTuple, dComp, noOwn, S.own, CDiv, CMul, CPow, eqvD_int, eqvD_tup, eqvD_lst, okD_int, okD_tup, okD_lst, okD_tup0, okD_lst0, eqvD_tup0, eqvD_lst0, inF_int, flatD, flat_ints, imap_inj, and_assoc, exists_eq_left, exists_eq_left', dSl, dNoPart, dPart, gSl, gStr]
  refine ⟨hp, ht, ?_⟩
  refine compD_mapL _ (fun p => !decide (p ∈ ns)) D.int (fun p hp K1 K2 k1 k2 => ?_) h
  simp [bindT, wipeS, dRet, dSeq, dIfS, dSet, dSetF, dDrop, dCall, dCallC, dArgs, dOn, dCons, dNil, dVar, dC, dBin, dChain, dUn, dAnd, dOr, dNot, dB, dAndT, dOrT, dNotT, dIf, dTup, dLst, dLstF, dFz, dItems, itemsD, dRg1, dRg2, dEnum, dZip, gZip, dCupGet, dCupSet, dNext, dRetN, dRaise, ends, start', nV, gI, gI0, DL.gSub, gMul, gFdiv, gMod, gPow, gAdd, gNeg, gLt, gLe, gGt, gGe, gEq, gNe, gIn, negB, gIs, isNonD, gIx, dIsi, isTy, tyD, gLen, gAbs, gInt, gTupL, gLenL, gSumL, gTuple, dComp, noOwn, S.own, CDiv, CMul, CPow, eqvD_int, eqvD_tup, eqvD_lst, okD_int, okD_tup, okD_lst, okD_tup0, okD_lst0, eqvD_tup0, eqvD_lst0, inF_int, flatD, flat_ints, imap_inj, and_assoc, exists_eq_left, exists_eq_left', dSl, dNoPart, dPart, gSl, gStr] at k1 k2 ⊢
  by_cases c : p ∈ ns
  · simp [c, k2]
  · simp [c, k1]
theorem h_idle_pipes (T : Top K mg) : Has P w K mg base 7 "idle_pipes" ["pipes", "tune"] false f_idle_pipes := by
  obtain ⟨fd, Fd, hm⟩ := T.d_idle_pipes
  have h_need_both := h_need_both (P := P) (w := w) (base := base) T
  exact D_has (k := 6) (N := ["pipes", "tune", "pipe"]) (t := t_idle_pipes) hm Fd sc_idle_pipes (fun _ _ _ _ _ _ us hl => match us, hl with | [_, _], _ => rfl) (fun cd A outer s H E F B => (ss_cons (s_expr (e_h h_need_both B.toBd (by decide) rfl (a_cons (e_var 0) (a_cons (e_var 1) a_nil))))
    (ss_one (s_ret (e_onLTy call_tupleF cl_tuple rfl T.m_tuple (by decide +kernel) (l_ofF (f_comp (tgt := (.nm 2)) [("pipe", 2)] B.toBd sc_idle_pipes.nd (by kernel_rfl) (by rfl) (i_seq (e_var 0)) (gt_nm 2) (fun _ _ _ _ _ => (pg_name sc_idle_pipes.nd rfl (by first | exact Or.inl rfl | exact Or.inr rfl))) (fun _ _ _ _ _ => (ts_one (t_cmp (opr_notIn B.toBd.blk.u1) opd_notIn (e_var 2) (e_var 1) rfl))) (fun _ _ _ _ _ => (e_var 2))))))))) len_idle_pipes p_idle_pipes
/-! law -/
theorem sc_law : FnScope ["script", "cup", "turn", "pipes", "tune", "lost", "lacks", "told", "counts", "idle", "ends", "parts", "most", "best", "more", "both", "steps", "due", "moved_v", "row", "tone", "at", "pipe", "many", "first"] ["script"] (defScope s_law) := ⟨rfl, rfl, rfl, by decide +kernel, rfl, by decide +kernel, by decide +kernel⟩
def t_law_b0 : DS := (dSeq (dSet 3 (dCallC 1 f__law_pipes (dCons (dCallC 1 f__law_some (dCons (dLst (dCons (dC (.int 3)) (dCons (dC (.int 10)) (dCons (dC (.int 20)) dNil)))) dNil)) dNil)))
  (dSeq (dSet 4 (dCallC 1 f__law_tune (dCons (dC (.int 20)) (dCons (dC (.int 12)) dNil))))
  (dSeq (dIfS (dAndT (dB (dBin gNe (dVar 3) (dTup dNil))) (dB (dBin gEq (dCallC 1 f__law_roll (dCons (dC (.int 3)) dNil)) (dC (.int 0))))) (dSet 4 (dOn gTupL (dComp (dRg1 (dCallC 1 f__law_roll (dCons (dC (.int 12)) dNil))) (.nm 20) dYes (dCallC 1 f__law_some (dCons (dVar 3) dNil)) [20]))) dNext)
  (dSeq (dSet 5 (dFz (dComp (dRg1 (dArgs gLen (dCons (dVar 4) dNil))) (.nm 21) (dB (dBin (negB gIn) (dBin gIx (dVar 4) (dVar 21)) (dVar 3))) (dVar 21) [21])))
  (dSeq (dSet 6 (dSortK (dK (dOn gDict (dComp (dItems (dVar 5)) (.nm 21) dYes (dTup (dCons (dBin gIx (dVar 4) (dVar 21)) (dCons (dC (.bl true)) dNil))) [21])))))
  (dSeq (dSet 7 (dTup (dCons (dCall f_can_play (dCons (dVar 3) (dCons (dVar 4) dNil))) (dCons (dCall f_lacking (dCons (dVar 3) (dCons (dVar 4) dNil))) (dCons (dCall f_lost_places (dCons (dVar 3) (dCons (dVar 4) dNil))) dNil)))))
  (dSeq (dIfS (dOrT (dB (dBin (negB gIs) (dCall f_is_pipes (dCons (dVar 3) dNil)) (dC (.bl true)))) (dNotT (dB (dCall (f__law_same 6) (dCons (dVar 7) (dCons (dTup (dCons (dBin gEq (dVar 5) (dLst dNil)) (dCons (dArgs gTuple (dCons (dVar 6) dNil)) (dCons (dArgs gTuple (dCons (dVar 5) dNil)) dNil)))) dNil)))))) (dRet (dC (.bl false))) dNext)
  (dSeq (dSet 8 (dOn gTupL (dComp (dItems (dVar 3)) (.nm 22) dYes (dOn gLenL (dComp (dItems (dVar 4)) (.nm 20) (dB (dBin gEq (dVar 20) (dVar 22))) (dC (.int 1)) [20])) [22])))
  (dSeq (dSet 9 (dOn gTupL (dComp (dZip (dVar 3) (dVar 8)) (.tp [22, 23]) (dB (dBin gEq (dVar 23) (dC (.int 0)))) (dVar 22) [22, 23])))
  (dSeq (dIfS (dOrT (dNotT (dB (dCall (f__law_same 6) (dCons (dTup (dCons (dCall f_turn_counts (dCons (dVar 3) (dCons (dVar 4) dNil))) (dCons (dCall f_idle_pipes (dCons (dVar 3) (dCons (dVar 4) dNil))) dNil))) (dCons (dTup (dCons (dVar 8) (dCons (dVar 9) dNil))) dNil))))) (dB (dBin gNe (dBin gAdd (dArgs gSum (dCons (dVar 8) dNil)) (dArgs gLen (dCons (dVar 5) dNil))) (dArgs gLen (dCons (dVar 4) dNil))))) (dRet (dC (.bl false))) dNext)
  (dSeq (dSet 10 (dBin gAdd (dBin gAdd (dLst (dCons (dUn gNeg (dC (.int 1))) dNil)) (dVar 5)) (dLst (dCons (dArgs gLen (dCons (dVar 4) dNil)) dNil))))
  (dSeq (dSet 11 (dFz (dComp (dRg1 (dBin gSub (dArgs gLen (dCons (dVar 10) dNil)) (dC (.int 1)))) (.nm 21) dYes (dTup (dCons (dBin gSub (dBin gSub (dBin gIx (dVar 10) (dBin gAdd (dVar 21) (dC (.int 1)))) (dBin gIx (dVar 10) (dVar 21))) (dC (.int 1))) (dCons (dBin gAdd (dBin gIx (dVar 10) (dVar 21)) (dC (.int 1))) dNil))) [21])))
  (dSeq (dSet 12 (dOn (gBest dMax) (dComp (dItems (dVar 11)) (.tp [23, 24]) dYes (dVar 23) [23, 24])))
  (dSeq (dSet 13 (dIf (dB (dBin gGt (dVar 12) (dC (.int 0)))) (dBin gIx (dFz (dComp (dItems (dVar 11)) (.tp [23, 24]) (dB (dBin gEq (dVar 23) (dVar 12))) (dTup (dCons (dVar 24) (dCons (dVar 23) dNil))) [23, 24])) (dC (.int 0))) (dTup (dCons (dC (.int 0)) (dCons (dC (.int 0)) dNil)))))
  (dSeq (dIfS (dNotT (dB (dCall (f__law_same 6) (dCons (dCall f_longest_played (dCons (dVar 3) (dCons (dVar 4) dNil))) (dCons (dVar 13) dNil))))) (dRet (dC (.bl false))) dNext)
  (dSeq (dSet 14 (dCallC 1 f__law_pipes (dCons (dC (.int 12)) dNil)))
  (dSeq (dSet 15 (dOn gTupL (dComp (dRg2 (dUn gNeg (dC (.int 8))) (dC (.int 17))) (.nm 20) (dOrT (dB (dBin gIn (dVar 20) (dVar 3))) (dB (dBin gIn (dVar 20) (dVar 14)))) (dVar 20) [20])))
  (dSeq (dIfS (dNotT (dB (dCall (f__law_same 6) (dCons (dTup (dCons (dCall f_with_pipes (dCons (dVar 3) (dCons (dVar 14) dNil))) (dCons (dCall f_with_pipes (dCons (dVar 14) (dCons (dVar 3) dNil))) dNil))) (dCons (dTup (dCons (dVar 15) (dCons (dVar 15) dNil))) dNil))))) (dRet (dC (.bl false))) dNext)
  (dSeq (dSet 16 (dCallC 1 f__law_some (dCons (dLst (dCons (dBin gSub (dCallC 1 f__law_roll (dCons (dC (.int 41)) dNil)) (dC (.int 20))) (dCons (dC (.int 84)) (dCons (dC (.int 85)) (dCons (dUn gNeg (dC (.int 92))) (dCons (dUn gNeg (dC (.int 93))) (dCons (dC (.int 200)) dNil))))))) dNil)))
  (dSeq (dSet 17 (dOn gTupL (dComp (dItems (dVar 3)) (.nm 22) dYes (dBin gAdd (dVar 22) (dVar 16)) [22])))
  (dSeq (dTry ["InvalidNumber"] (dSet 18 (dCall f_shifted_pipes (dCons (dVar 3) (dCons (dVar 16) dNil)))) (dSet 18 (dC .non)))
  (dIfS (dNotT (dB (dCall (f__law_same 6) (dCons (dVar 18) (dCons (dIf (dB (dBin gEq (dFz (dComp (dItems (dVar 17)) (.nm 22) (dB (dBin gGt (dArgs gAbs (dCons (dVar 22) dNil)) (dC (.int 100)))) (dVar 22) [22])) (dLst dNil))) (dVar 17) (dC .non)) dNil))))) (dRet (dC (.bl false))) dNext))))))))))))))))))))))
def t_law (a : Addr) : DS := (dSeq (dCup0 1 0 a)
  (dSeq (dFor (dRg1 (dC (.int 8))) (.nm 2) t_law_b0)
  (dSeq (dSet 19 (dArgs gTuple (dCons (dLR (dRg1 (dC (.int 60)))) dNil)))
  (dSeq (dIfS (dNotT (dB (dCall (f__law_same 6) (dCons (dTup (dCons (dCall f_with_pipes (dCons (dVar 19) (dCons (dSl (dVar 19) dNoPart (dPart (dC (.int 9)))) dNil))) (dCons (dCall f_can_play (dCons (dVar 19) (dCons (dTup dNil) dNil))) (dCons (dCall f_longest_played (dCons (dVar 19) (dCons (dTup (dCons (dC (.int 60)) (dCons (dC (.int 5)) (dCons (dC (.int 6)) dNil)))) dNil))) (dCons (dCall f_shifted_pipes (dCons (dTup dNil) (dCons (dC (.int 200)) dNil))) dNil))))) (dCons (dTup (dCons (dVar 19) (dCons (dC (.bl true)) (dCons (dTup (dCons (dC (.int 1)) (dCons (dC (.int 2)) dNil))) (dCons (dTup dNil) dNil))))) dNil))))) (dRet (dC (.bl false))) dNext)
  (dSeq (dTry ["InvalidNumber"] (dDrop (dCall f_with_pipes (dCons (dVar 19) (dCons (dTup (dCons (dC (.int 60)) dNil)) dNil)))) (dRet (dC (.bl true))))
  (dRet (dC (.bl false))))))))
theorem lost_iL (ps ns : List Int) : iL (lostP ps ns) = ((List.range ns.length).filter fun i => !decide (ns.getD i 0 ∈ ps)).map fun i : Nat => D.int (i : Int) := by
  rw [lostP_eq, iL, List.map_map]
  rfl
theorem same_ints (n : Nat) {ns : List Int} (h : ns.length ≤ 16777216) : sameOk (n + 2) (iT ns) := ⟨by simpa using h, fun x hx => by
  obtain ⟨z, _, rfl⟩ := List.mem_map.mp hx
  exact True.intro⟩
theorem same_tup (n : Nat) {xs : List D} (hl : xs.length ≤ 100) (h : ∀ x ∈ xs, sameOk n x) : sameOk (n + 1) (.tup xs) := ⟨by omega, h⟩
theorem sortU_small {l : List Int} (h : ∀ n ∈ l, -8 ≤ n ∧ n ≤ 16) : (sortU l).length ≤ 60 := by
  have := asc_bound (sortU l) (-8) (sortU_asc l) fun n hn => h n (mem_sortU.mp hn)
  simp at this
  omega
theorem okP_shift {ps : List Int} (hp : okP ps) (s : Int) : okP (ps.map fun n => n + s) ↔ ∀ n ∈ ps, -100 ≤ n + s ∧ n + s ≤ 100 := by
  constructor
  · intro h n hn
    exact h.2.1 (n + s) (List.mem_map_of_mem (f := fun n => n + s) hn)
  · intro h
    refine ⟨by rw [List.length_map]; exact hp.1, fun n hn => ?_, ?_⟩
    · obtain ⟨m, hm, rfl⟩ := List.mem_map.mp hn
      exact h m hm
    · rw [List.pairwise_map]
      exact hp.2.2.imp fun h => by omega
def L25 (a : Addr) (x2 x3 x4 x5 x6 x7 x8 x9 x10 x11 x12 x13 x14 x15 x16 x17 x18 x19 : S) : List S := [S.im (.ref a), .cup, x2, x3, x4, x5, x6, x7, x8, x9, x10, x11, x12, x13, x14, x15, x16, x17, x18, x19, .un, .un, .un, .un, .un]
theorem turn_law (a : Addr) (x2 x3 x4 x5 x6 x7 x8 x9 x10 x11 x12 x13 x14 x15 x16 x17 x18 x19 : S) (B : DE) (hB : ∀ z2 z3 z4 z5 z6 z7 z8 z9 z10 z11 z12 z13 z14 z15 z16 z17 z18 z19 : S, B.nx (L25 a z2 z3 z4 z5 z6 z7 z8 z9 z10 z11 z12 z13 z14 z15 z16 z17 z18 z19)) : t_law_b0 B (L25 a x2 x3 x4 x5 x6 x7 x8 x9 x10 x11 x12 x13 x14 x15 x16 x17 x18 x19) := by
  unfold t_law_b0
  have sl := sizeLine_eq
  refine seqP (fun ρ' => ∃ ps : List Int, (ps.length ≤ 20 ∧ (∀ n ∈ ps, -8 ≤ n ∧ n ≤ 16) ∧ ps.Pairwise (· < ·)) ∧ ρ' = L25 a x2 (.im (iT ps)) x4 x5 x6 x7 x8 x9 x10 x11 x12 x13 x14 x15 x16 x17 x18 x19) (fun N k => ?_) ?_
  · simp [dRet, dSeq, dIfS, dSet, dSetF, dDrop, dCall, dCallC, dArgs, dOn, dCons, dNil, dVar, dC, dBin, dChain, dUn, dAnd, dOr, dNot, dB, dAndT, dOrT, dNotT, dIf, dTup, dLst, dLstF, dFz, dItems, itemsD, dRg1, dRg2, dEnum, dZip, gZip, dCupGet, dCupSet, dNext, dRetN, dRaise, ends, start', nV, gI, gI0, DL.gSub, gMul, gFdiv, gMod, gPow, gAdd, gNeg, gLt, gLe, gGt, gGe, gEq, gNe, gIn, negB, gIs, isNonD, gIx, dIsi, isTy, tyD, gLen, gAbs, gInt, gTupL, gLenL, gSumL, gTuple, dComp, noOwn, S.own, CDiv, CMul, CPow, eqvD_int, eqvD_tup, eqvD_lst, okD_int, okD_tup, okD_lst, okD_tup0, okD_lst0, eqvD_tup0, eqvD_lst0, inF_int, flatD, flat_ints, imap_inj, and_assoc, exists_eq_left, exists_eq_left', dSl, dNoPart, dPart, gSl, gStr, L25, f__law_pipes, f__law_some] at k ⊢
    refine ⟨by omega, fun ns h1 h2 h3 => k _ ns (by omega) h2 h3 rfl, fun ns h1 h2 h3 => k _ ns (by omega) h2 h3 rfl, fun ns h1 h2 h3 => k _ ns (by omega) h2 h3 rfl⟩
  rintro _ ⟨ps, ⟨hp1, hp2, hp3⟩, rfl⟩
  have hp : okP ps := ⟨by omega, fun n hn => by have := hp2 n hn; omega, hp3⟩
  refine seqP (fun ρ' => ∃ ns : List Int, (ns.length ≤ 20 ∧ (∀ n ∈ ns, -10 ≤ n ∧ n ≤ 22)) ∧ ρ' = L25 a x2 (.im (iT ps)) (.im (iT ns)) x5 x6 x7 x8 x9 x10 x11 x12 x13 x14 x15 x16 x17 x18 x19) (fun N k => ?_) ?_
  · simp [dRet, dSeq, dIfS, dSet, dSetF, dDrop, dCall, dCallC, dArgs, dOn, dCons, dNil, dVar, dC, dBin, dChain, dUn, dAnd, dOr, dNot, dB, dAndT, dOrT, dNotT, dIf, dTup, dLst, dLstF, dFz, dItems, itemsD, dRg1, dRg2, dEnum, dZip, gZip, dCupGet, dCupSet, dNext, dRetN, dRaise, ends, start', nV, gI, gI0, DL.gSub, gMul, gFdiv, gMod, gPow, gAdd, gNeg, gLt, gLe, gGt, gGe, gEq, gNe, gIn, negB, gIs, isNonD, gIx, dIsi, isTy, tyD, gLen, gAbs, gInt, gTupL, gLenL, gSumL, gTuple, dComp, noOwn, S.own, CDiv, CMul, CPow, eqvD_int, eqvD_tup, eqvD_lst, okD_int, okD_tup, okD_lst, okD_tup0, okD_lst0, eqvD_tup0, eqvD_lst0, inF_int, flatD, flat_ints, imap_inj, and_assoc, exists_eq_left, exists_eq_left', dSl, dNoPart, dPart, gSl, gStr, L25, f__law_tune] at k ⊢
    exact fun ns h1 h2 => k _ ns (by omega) h2 rfl
  rintro _ ⟨ns, ⟨ht1, ht2⟩, rfl⟩
  refine seqP (fun ρ' => ∃ ms : List Int, (ms.length ≤ 20 ∧ (∀ n ∈ ms, -10 ≤ n ∧ n ≤ 22)) ∧ ρ' = L25 a x2 (.im (iT ps)) (.im (iT ms)) x5 x6 x7 x8 x9 x10 x11 x12 x13 x14 x15 x16 x17 x18 x19) (fun N k => ?_) ?_
  · simp [dRet, dSeq, dIfS, dSet, dSetF, dDrop, dCall, dCallC, dArgs, dOn, dCons, dNil, dVar, dC, dBin, dChain, dUn, dAnd, dOr, dNot, dB, dAndT, dOrT, dNotT, dIf, dTup, dLst, dLstF, dFz, dItems, itemsD, dRg1, dRg2, dEnum, dZip, gZip, dCupGet, dCupSet, dNext, dRetN, dRaise, ends, start', nV, gI, gI0, DL.gSub, gMul, gFdiv, gMod, gPow, gAdd, gNeg, gLt, gLe, gGt, gGe, gEq, gNe, gIn, negB, gIs, isNonD, gIx, dIsi, isTy, tyD, gLen, gAbs, gInt, gTupL, gLenL, gSumL, gTuple, dComp, noOwn, S.own, CDiv, CMul, CPow, eqvD_int, eqvD_tup, eqvD_lst, okD_int, okD_tup, okD_lst, okD_tup0, okD_lst0, eqvD_tup0, eqvD_lst0, inF_int, flatD, flat_ints, imap_inj, and_assoc, exists_eq_left, exists_eq_left', dSl, dNoPart, dPart, gSl, gStr, L25, f__law_roll, f__law_some] at k ⊢
    by_cases c : ps = []
    · exact .inl ⟨c, k _ ns ht1 ht2 rfl⟩
    · refine .inr ⟨c, fun r h0 h1 => ?_⟩
      split
      · intro q h2 h3
        refine ⟨by omega, by omega, ?_⟩
        refine compD_some (fun d => ∃ z : Int, d = .int z ∧ z ∈ ps) (fun d hd K1 kk => ?_) fun ys hl hy => ?_
        · simp [bindT, wipeS, dRet, dSeq, dIfS, dSet, dSetF, dDrop, dCall, dCallC, dArgs, dOn, dCons, dNil, dVar, dC, dBin, dChain, dUn, dAnd, dOr, dNot, dB, dAndT, dOrT, dNotT, dIf, dTup, dLst, dLstF, dFz, dItems, itemsD, dRg1, dRg2, dEnum, dZip, gZip, dCupGet, dCupSet, dNext, dRetN, dRaise, ends, start', nV, gI, gI0, DL.gSub, gMul, gFdiv, gMod, gPow, gAdd, gNeg, gLt, gLe, gGt, gGe, gEq, gNe, gIn, negB, gIs, isNonD, gIx, dIsi, isTy, tyD, gLen, gAbs, gInt, gTupL, gLenL, gSumL, gTuple, dComp, noOwn, S.own, CDiv, CMul, CPow, eqvD_int, eqvD_tup, eqvD_lst, okD_int, okD_tup, okD_lst, okD_tup0, okD_lst0, eqvD_tup0, eqvD_lst0, inF_int, flatD, flat_ints, imap_inj, and_assoc, exists_eq_left, exists_eq_left', dSl, dNoPart, dPart, gSl, gStr, f__law_some]
          exact ⟨List.length_pos_iff.mpr c, by omega, fun z hz => kk _ ⟨z, rfl, hz⟩⟩
        · obtain ⟨zs, rfl, hz⟩ := ints_of' hy
          rw [List.length_map, rgD_length] at hl
          exact k _ zs (by omega) (fun n hn => by have := hp2 n (hz n hn); omega) rfl
      · exact k _ ns ht1 ht2 rfl
  clear ht1 ht2 ns
  rintro _ ⟨ns, ⟨ht1, ht2⟩, rfl⟩
  have ht : okT ns := ⟨by omega, fun n hn => by have := ht2 n hn; omega⟩
  refine seq1 (L25 a x2 (.im (iT ps)) (.im (iT ns)) (.im (.lst (iL (lostP ps ns)))) x6 x7 x8 x9 x10 x11 x12 x13 x14 x15 x16 x17 x18 x19) (fun N k => ?_) ?_
  · simp [dRet, dSeq, dIfS, dSet, dSetF, dDrop, dCall, dCallC, dArgs, dOn, dCons, dNil, dVar, dC, dBin, dChain, dUn, dAnd, dOr, dNot, dB, dAndT, dOrT, dNotT, dIf, dTup, dLst, dLstF, dFz, dItems, itemsD, dRg1, dRg2, dEnum, dZip, gZip, dCupGet, dCupSet, dNext, dRetN, dRaise, ends, start', nV, gI, gI0, DL.gSub, gMul, gFdiv, gMod, gPow, gAdd, gNeg, gLt, gLe, gGt, gGe, gEq, gNe, gIn, negB, gIs, isNonD, gIx, dIsi, isTy, tyD, gLen, gAbs, gInt, gTupL, gLenL, gSumL, gTuple, dComp, noOwn, S.own, CDiv, CMul, CPow, eqvD_int, eqvD_tup, eqvD_lst, okD_int, okD_tup, okD_lst, okD_tup0, okD_lst0, eqvD_tup0, eqvD_lst0, inF_int, flatD, flat_ints, imap_inj, and_assoc, exists_eq_left, exists_eq_left', dSl, dNoPart, dPart, gSl, gStr, L25] at k ⊢
    refine ⟨by omega, ?_⟩
    rw [rgD0]
    refine compD_mapL _ (fun i : Nat => !decide (ns.getD i 0 ∈ ps)) (fun i => .int (i : Nat)) (fun i hi K1 K2 k1 k2 => ?_) (by rw [← lost_iL]; exact k)
    have e := atI_ints (by simpa using hi : i < ns.length)
    simp [bindT, wipeS, dRet, dSeq, dIfS, dSet, dSetF, dDrop, dCall, dCallC, dArgs, dOn, dCons, dNil, dVar, dC, dBin, dChain, dUn, dAnd, dOr, dNot, dB, dAndT, dOrT, dNotT, dIf, dTup, dLst, dLstF, dFz, dItems, itemsD, dRg1, dRg2, dEnum, dZip, gZip, dCupGet, dCupSet, dNext, dRetN, dRaise, ends, start', nV, gI, gI0, DL.gSub, gMul, gFdiv, gMod, gPow, gAdd, gNeg, gLt, gLe, gGt, gGe, gEq, gNe, gIn, negB, gIs, isNonD, gIx, dIsi, isTy, tyD, gLen, gAbs, gInt, gTupL, gLenL, gSumL, gTuple, dComp, noOwn, S.own, CDiv, CMul, CPow, eqvD_int, eqvD_tup, eqvD_lst, okD_int, okD_tup, okD_lst, okD_tup0, okD_lst0, eqvD_tup0, eqvD_lst0, inF_int, flatD, flat_ints, imap_inj, and_assoc, exists_eq_left, exists_eq_left', dSl, dNoPart, dPart, gSl, gStr, e] at k1 k2 ⊢
    by_cases c : ns[i]?.getD 0 ∈ ps
    · simp [c, k2]
    · simp [c, k1]
  refine seq1 (L25 a x2 (.im (iT ps)) (.im (iT ns)) (.im (.lst (iL (lostP ps ns)))) (.im (.lst (iL (sortU (ns.filter fun n => !decide (n ∈ ps)))))) x7 x8 x9 x10 x11 x12 x13 x14 x15 x16 x17 x18 x19) (fun N k => ?_) ?_
  · simp [dRet, dSeq, dIfS, dSet, dSetF, dDrop, dCall, dCallC, dArgs, dOn, dCons, dNil, dVar, dC, dBin, dChain, dUn, dAnd, dOr, dNot, dB, dAndT, dOrT, dNotT, dIf, dTup, dLst, dLstF, dFz, dItems, itemsD, dRg1, dRg2, dEnum, dZip, gZip, dCupGet, dCupSet, dNext, dRetN, dRaise, ends, start', nV, gI, gI0, DL.gSub, gMul, gFdiv, gMod, gPow, gAdd, gNeg, gLt, gLe, gGt, gGe, gEq, gNe, gIn, negB, gIs, isNonD, gIx, dIsi, isTy, tyD, gLen, gAbs, gInt, gTupL, gLenL, gSumL, gTuple, dComp, noOwn, S.own, CDiv, CMul, CPow, eqvD_int, eqvD_tup, eqvD_lst, okD_int, okD_tup, okD_lst, okD_tup0, okD_lst0, eqvD_tup0, eqvD_lst0, inF_int, flatD, flat_ints, imap_inj, and_assoc, exists_eq_left, exists_eq_left', dSl, dNoPart, dPart, gSl, gStr, L25, dSortK, dK, gDict] at k ⊢
    refine compD_eq (lost_iL ps ns) ?_
    refine compD_mapA _ (fun i : Nat => .tup [.int (ns.getD i 0), .bl true]) (fun i hi K1 kk => ?_) ?_
    · have e := atI_ints (by simpa using (List.mem_filter.mp hi).1 : i < ns.length)
      simp [bindT, wipeS, dRet, dSeq, dIfS, dSet, dSetF, dDrop, dCall, dCallC, dArgs, dOn, dCons, dNil, dVar, dC, dBin, dChain, dUn, dAnd, dOr, dNot, dB, dAndT, dOrT, dNotT, dIf, dTup, dLst, dLstF, dFz, dItems, itemsD, dRg1, dRg2, dEnum, dZip, gZip, dCupGet, dCupSet, dNext, dRetN, dRaise, ends, start', nV, gI, gI0, DL.gSub, gMul, gFdiv, gMod, gPow, gAdd, gNeg, gLt, gLe, gGt, gGe, gEq, gNe, gIn, negB, gIs, isNonD, gIx, dIsi, isTy, tyD, gLen, gAbs, gInt, gTupL, gLenL, gSumL, gTuple, dComp, noOwn, S.own, CDiv, CMul, CPow, eqvD_int, eqvD_tup, eqvD_lst, okD_int, okD_tup, okD_lst, okD_tup0, okD_lst0, eqvD_tup0, eqvD_lst0, inF_int, flatD, flat_ints, imap_inj, and_assoc, exists_eq_left, exists_eq_left', dSl, dNoPart, dPart, gSl, gStr, e, sl]
      simpa using kk
    · have e : (((List.range ns.length).filter fun i => !decide (ns.getD i 0 ∈ ps)).map fun i : Nat => D.tup [.int (ns.getD i 0), .bl true]) = (ns.filter fun n => !decide (n ∈ ps)).map fun z => .tup [.int z, .bl true] := by
        rw [← vals_lost, List.map_map]; rfl
      rw [e]
      refine ⟨_, unPairs_ints _, _, kmerge_ints _ [] [], ?_, ?_⟩
      · have h1 := dict_len (ns.filter fun n => !decide (n ∈ ps)) []
        have h2 := List.length_filter_le (fun n => !decide (n ∈ ps)) ns
        simp at h1
        omega
      · rw [sort_dict]; exact k
  refine seq1 (L25 a x2 (.im (iT ps)) (.im (iT ns)) (.im (.lst (iL (lostP ps ns)))) (.im (.lst (iL (sortU (ns.filter fun n => !decide (n ∈ ps)))))) (.im (.tup [.bl (ns.all fun n => decide (n ∈ ps)), iT (sortU (ns.filter fun n => !decide (n ∈ ps))), iT (lostP ps ns)])) x8 x9 x10 x11 x12 x13 x14 x15 x16 x17 x18 x19) (fun N k => ?_) ?_
  · simp [dRet, dSeq, dIfS, dSet, dSetF, dDrop, dCall, dCallC, dArgs, dOn, dCons, dNil, dVar, dC, dBin, dChain, dUn, dAnd, dOr, dNot, dB, dAndT, dOrT, dNotT, dIf, dTup, dLst, dLstF, dFz, dItems, itemsD, dRg1, dRg2, dEnum, dZip, gZip, dCupGet, dCupSet, dNext, dRetN, dRaise, ends, start', nV, gI, gI0, DL.gSub, gMul, gFdiv, gMod, gPow, gAdd, gNeg, gLt, gLe, gGt, gGe, gEq, gNe, gIn, negB, gIs, isNonD, gIx, dIsi, isTy, tyD, gLen, gAbs, gInt, gTupL, gLenL, gSumL, gTuple, dComp, noOwn, S.own, CDiv, CMul, CPow, eqvD_int, eqvD_tup, eqvD_lst, okD_int, okD_tup, okD_lst, okD_tup0, okD_lst0, eqvD_tup0, eqvD_lst0, inF_int, flatD, flat_ints, imap_inj, and_assoc, exists_eq_left, exists_eq_left', dSl, dNoPart, dPart, gSl, gStr, L25, f_can_play, f_lacking, f_lost_places] at k ⊢
    exact ⟨hp, ht, hp, ht, hp, ht, by omega, k⟩
  have hls : (lostP ps ns).length ≤ 20 := by
    rw [lost_length]
    have := List.length_filter_le (fun n => !decide (n ∈ ps)) ns
    omega
  have hsu : (sortU (ns.filter fun n => !decide (n ∈ ps))).length ≤ 20 := by
    have h1 := sortU_len (ns.filter fun n => !decide (n ∈ ps))
    have := List.length_filter_le (fun n => !decide (n ∈ ps)) ns
    omega
  refine seq1 (L25 a x2 (.im (iT ps)) (.im (iT ns)) (.im (.lst (iL (lostP ps ns)))) (.im (.lst (iL (sortU (ns.filter fun n => !decide (n ∈ ps)))))) (.im (.tup [.bl (ns.all fun n => decide (n ∈ ps)), iT (sortU (ns.filter fun n => !decide (n ∈ ps))), iT (lostP ps ns)])) x8 x9 x10 x11 x12 x13 x14 x15 x16 x17 x18 x19) (fun N k => ?_) ?_
  · simp [dRet, dSeq, dIfS, dSet, dSetF, dDrop, dCall, dCallC, dArgs, dOn, dCons, dNil, dVar, dC, dBin, dChain, dUn, dAnd, dOr, dNot, dB, dAndT, dOrT, dNotT, dIf, dTup, dLst, dLstF, dFz, dItems, itemsD, dRg1, dRg2, dEnum, dZip, gZip, dCupGet, dCupSet, dNext, dRetN, dRaise, ends, start', nV, gI, gI0, DL.gSub, gMul, gFdiv, gMod, gPow, gAdd, gNeg, gLt, gLe, gGt, gGe, gEq, gNe, gIn, negB, gIs, isNonD, gIx, dIsi, isTy, tyD, gLen, gAbs, gInt, gTupL, gLenL, gSumL, gTuple, dComp, noOwn, S.own, CDiv, CMul, CPow, eqvD_int, eqvD_tup, eqvD_lst, okD_int, okD_tup, okD_lst, okD_tup0, okD_lst0, eqvD_tup0, eqvD_lst0, inF_int, flatD, flat_ints, imap_inj, and_assoc, exists_eq_left, exists_eq_left', dSl, dNoPart, dPart, gSl, gStr, L25, f_is_pipes, f__law_same] at k ⊢
    refine ⟨hp, by omega, lost_nil ps ns, same_tup 5 (by simp) ?_, k⟩
    intro x hx
    simp only [List.mem_cons, List.not_mem_nil, or_false] at hx
    rcases hx with rfl | rfl | rfl
    · exact True.intro
    · exact same_ints 3 (by omega)
    · exact same_ints 3 (by omega)
  refine seq1 (L25 a x2 (.im (iT ps)) (.im (iT ns)) (.im (.lst (iL (lostP ps ns)))) (.im (.lst (iL (sortU (ns.filter fun n => !decide (n ∈ ps)))))) (.im (.tup [.bl (ns.all fun n => decide (n ∈ ps)), iT (sortU (ns.filter fun n => !decide (n ∈ ps))), iT (lostP ps ns)])) (.im (iT (ps.map fun p => (ns.count p : Int)))) x9 x10 x11 x12 x13 x14 x15 x16 x17 x18 x19) (fun N k => ?_) ?_
  · simp [dRet, dSeq, dIfS, dSet, dSetF, dDrop, dCall, dCallC, dArgs, dOn, dCons, dNil, dVar, dC, dBin, dChain, dUn, dAnd, dOr, dNot, dB, dAndT, dOrT, dNotT, dIf, dTup, dLst, dLstF, dFz, dItems, itemsD, dRg1, dRg2, dEnum, dZip, gZip, dCupGet, dCupSet, dNext, dRetN, dRaise, ends, start', nV, gI, gI0, DL.gSub, gMul, gFdiv, gMod, gPow, gAdd, gNeg, gLt, gLe, gGt, gGe, gEq, gNe, gIn, negB, gIs, isNonD, gIx, dIsi, isTy, tyD, gLen, gAbs, gInt, gTupL, gLenL, gSumL, gTuple, dComp, noOwn, S.own, CDiv, CMul, CPow, eqvD_int, eqvD_tup, eqvD_lst, okD_int, okD_tup, okD_lst, okD_tup0, okD_lst0, eqvD_tup0, eqvD_lst0, inF_int, flatD, flat_ints, imap_inj, and_assoc, exists_eq_left, exists_eq_left', dSl, dNoPart, dPart, gSl, gStr, L25] at k ⊢
    refine compD_mapA _ (fun p => .int (ns.count p : Nat)) (fun p hp K1 kk => ?_) (by simpa [iT, List.map_map, Function.comp_def] using k)
    simp [bindT, wipeS, dRet, dSeq, dIfS, dSet, dSetF, dDrop, dCall, dCallC, dArgs, dOn, dCons, dNil, dVar, dC, dBin, dChain, dUn, dAnd, dOr, dNot, dB, dAndT, dOrT, dNotT, dIf, dTup, dLst, dLstF, dFz, dItems, itemsD, dRg1, dRg2, dEnum, dZip, gZip, dCupGet, dCupSet, dNext, dRetN, dRaise, ends, start', nV, gI, gI0, DL.gSub, gMul, gFdiv, gMod, gPow, gAdd, gNeg, gLt, gLe, gGt, gGe, gEq, gNe, gIn, negB, gIs, isNonD, gIx, dIsi, isTy, tyD, gLen, gAbs, gInt, gTupL, gLenL, gSumL, gTuple, dComp, noOwn, S.own, CDiv, CMul, CPow, eqvD_int, eqvD_tup, eqvD_lst, okD_int, okD_tup, okD_lst, okD_tup0, okD_lst0, eqvD_tup0, eqvD_lst0, inF_int, flatD, flat_ints, imap_inj, and_assoc, exists_eq_left, exists_eq_left', dSl, dNoPart, dPart, gSl, gStr]
    refine compD_mapL _ (fun t => decide (t = p)) (fun _ => .int 1) (fun t ht K3 K4 k3 k4 => ?_) ?_
    · simp [bindT, wipeS, dRet, dSeq, dIfS, dSet, dSetF, dDrop, dCall, dCallC, dArgs, dOn, dCons, dNil, dVar, dC, dBin, dChain, dUn, dAnd, dOr, dNot, dB, dAndT, dOrT, dNotT, dIf, dTup, dLst, dLstF, dFz, dItems, itemsD, dRg1, dRg2, dEnum, dZip, gZip, dCupGet, dCupSet, dNext, dRetN, dRaise, ends, start', nV, gI, gI0, DL.gSub, gMul, gFdiv, gMod, gPow, gAdd, gNeg, gLt, gLe, gGt, gGe, gEq, gNe, gIn, negB, gIs, isNonD, gIx, dIsi, isTy, tyD, gLen, gAbs, gInt, gTupL, gLenL, gSumL, gTuple, dComp, noOwn, S.own, CDiv, CMul, CPow, eqvD_int, eqvD_tup, eqvD_lst, okD_int, okD_tup, okD_lst, okD_tup0, okD_lst0, eqvD_tup0, eqvD_lst0, inF_int, flatD, flat_ints, imap_inj, and_assoc, exists_eq_left, exists_eq_left', dSl, dNoPart, dPart, gSl, gStr] at k3 k4 ⊢
      by_cases c : t = p
      · simp [c, k3]
      · simp [c, k4]
    · rw [List.length_map, count_filter]; exact kk
  refine seq1 (L25 a x2 (.im (iT ps)) (.im (iT ns)) (.im (.lst (iL (lostP ps ns)))) (.im (.lst (iL (sortU (ns.filter fun n => !decide (n ∈ ps)))))) (.im (.tup [.bl (ns.all fun n => decide (n ∈ ps)), iT (sortU (ns.filter fun n => !decide (n ∈ ps))), iT (lostP ps ns)])) (.im (iT (ps.map fun p => (ns.count p : Int)))) (.im (iT (ps.filter fun p => !decide (p ∈ ns)))) x10 x11 x12 x13 x14 x15 x16 x17 x18 x19) (fun N k => ?_) ?_
  · simp [dRet, dSeq, dIfS, dSet, dSetF, dDrop, dCall, dCallC, dArgs, dOn, dCons, dNil, dVar, dC, dBin, dChain, dUn, dAnd, dOr, dNot, dB, dAndT, dOrT, dNotT, dIf, dTup, dLst, dLstF, dFz, dItems, itemsD, dRg1, dRg2, dEnum, dZip, gZip, dCupGet, dCupSet, dNext, dRetN, dRaise, ends, start', nV, gI, gI0, DL.gSub, gMul, gFdiv, gMod, gPow, gAdd, gNeg, gLt, gLe, gGt, gGe, gEq, gNe, gIn, negB, gIs, isNonD, gIx, dIsi, isTy, tyD, gLen, gAbs, gInt, gTupL, gLenL, gSumL, gTuple, dComp, noOwn, S.own, CDiv, CMul, CPow, eqvD_int, eqvD_tup, eqvD_lst, okD_int, okD_tup, okD_lst, okD_tup0, okD_lst0, eqvD_tup0, eqvD_lst0, inF_int, flatD, flat_ints, imap_inj, and_assoc, exists_eq_left, exists_eq_left', dSl, dNoPart, dPart, gSl, gStr, L25] at k ⊢
    have e := zipD_ints ps (ps.map fun p => (ns.count p : Int))
    refine compD_eq (by simpa [iL] using e) ?_
    refine compD_mapL _ (fun q : Int × Int => decide (q.2 = 0)) (fun q => .int q.1) (fun q hq K1 K2 k1 k2 => ?_) ?_
    · simp [bindT, setAll, wipeS, dRet, dSeq, dIfS, dSet, dSetF, dDrop, dCall, dCallC, dArgs, dOn, dCons, dNil, dVar, dC, dBin, dChain, dUn, dAnd, dOr, dNot, dB, dAndT, dOrT, dNotT, dIf, dTup, dLst, dLstF, dFz, dItems, itemsD, dRg1, dRg2, dEnum, dZip, gZip, dCupGet, dCupSet, dNext, dRetN, dRaise, ends, start', nV, gI, gI0, DL.gSub, gMul, gFdiv, gMod, gPow, gAdd, gNeg, gLt, gLe, gGt, gGe, gEq, gNe, gIn, negB, gIs, isNonD, gIx, dIsi, isTy, tyD, gLen, gAbs, gInt, gTupL, gLenL, gSumL, gTuple, dComp, noOwn, S.own, CDiv, CMul, CPow, eqvD_int, eqvD_tup, eqvD_lst, okD_int, okD_tup, okD_lst, okD_tup0, okD_lst0, eqvD_tup0, eqvD_lst0, inF_int, flatD, flat_ints, imap_inj, and_assoc, exists_eq_left, exists_eq_left', dSl, dNoPart, dPart, gSl, gStr] at k1 k2 ⊢
      by_cases c : q.2 = 0
      · simp [c, k1]
      · simp [c, k2]
    · have e2 := congrArg iL (idle_eq ps ns)
      rw [iL, List.map_map] at e2
      rw [show (fun q : Int × Int => D.int q.1) = D.int ∘ (fun x : Int × Int => x.1) from rfl, e2]
      exact k
  refine seq1 (L25 a x2 (.im (iT ps)) (.im (iT ns)) (.im (.lst (iL (lostP ps ns)))) (.im (.lst (iL (sortU (ns.filter fun n => !decide (n ∈ ps)))))) (.im (.tup [.bl (ns.all fun n => decide (n ∈ ps)), iT (sortU (ns.filter fun n => !decide (n ∈ ps))), iT (lostP ps ns)])) (.im (iT (ps.map fun p => (ns.count p : Int)))) (.im (iT (ps.filter fun p => !decide (p ∈ ns)))) x10 x11 x12 x13 x14 x15 x16 x17 x18 x19) (fun N k => ?_) ?_
  · have es := sum_counts ps ns (hp3.imp fun h => Int.ne_of_lt h)
    rw [← lost_length] at es
    have ui := unInts_map (ps.map fun p => (ns.count p : Int))
    simp [iT, List.map_map, Function.comp_def] at ui
    simp [dRet, dSeq, dIfS, dSet, dSetF, dDrop, dCall, dCallC, dArgs, dOn, dCons, dNil, dVar, dC, dBin, dChain, dUn, dAnd, dOr, dNot, dB, dAndT, dOrT, dNotT, dIf, dTup, dLst, dLstF, dFz, dItems, itemsD, dRg1, dRg2, dEnum, dZip, gZip, dCupGet, dCupSet, dNext, dRetN, dRaise, ends, start', nV, gI, gI0, DL.gSub, gMul, gFdiv, gMod, gPow, gAdd, gNeg, gLt, gLe, gGt, gGe, gEq, gNe, gIn, negB, gIs, isNonD, gIx, dIsi, isTy, tyD, gLen, gAbs, gInt, gTupL, gLenL, gSumL, gTuple, dComp, noOwn, S.own, CDiv, CMul, CPow, eqvD_int, eqvD_tup, eqvD_lst, okD_int, okD_tup, okD_lst, okD_tup0, okD_lst0, eqvD_tup0, eqvD_lst0, inF_int, flatD, flat_ints, imap_inj, and_assoc, exists_eq_left, exists_eq_left', dSl, dNoPart, dPart, gSl, gStr, L25, f_turn_counts, f_idle_pipes, f__law_same, gSum, ui] at k ⊢
    refine ⟨hp, ht, hp, ht, by omega, same_tup 5 (by simp) ?_, _, ui, .inl ⟨es, k⟩⟩
    intro x hx
    simp only [List.mem_cons, List.not_mem_nil, or_false] at hx
    rcases hx with rfl | rfl
    · exact same_ints 3 (by rw [List.length_map]; omega)
    · exact same_ints 3 (by have := List.length_filter_le (fun p => !decide (p ∈ ns)) ps; omega)
  refine seq1 (L25 a x2 (.im (iT ps)) (.im (iT ns)) (.im (.lst (iL (lostP ps ns)))) (.im (.lst (iL (sortU (ns.filter fun n => !decide (n ∈ ps)))))) (.im (.tup [.bl (ns.all fun n => decide (n ∈ ps)), iT (sortU (ns.filter fun n => !decide (n ∈ ps))), iT (lostP ps ns)])) (.im (iT (ps.map fun p => (ns.count p : Int)))) (.im (iT (ps.filter fun p => !decide (p ∈ ns)))) (.im (.lst (iL (-1 :: (lostP ps ns ++ [(ns.length : Int)]))))) x11 x12 x13 x14 x15 x16 x17 x18 x19) (fun N k => ?_) ?_
  · simp [dRet, dSeq, dIfS, dSet, dSetF, dDrop, dCall, dCallC, dArgs, dOn, dCons, dNil, dVar, dC, dBin, dChain, dUn, dAnd, dOr, dNot, dB, dAndT, dOrT, dNotT, dIf, dTup, dLst, dLstF, dFz, dItems, itemsD, dRg1, dRg2, dEnum, dZip, gZip, dCupGet, dCupSet, dNext, dRetN, dRaise, ends, start', nV, gI, gI0, DL.gSub, gMul, gFdiv, gMod, gPow, gAdd, gNeg, gLt, gLe, gGt, gGe, gEq, gNe, gIn, negB, gIs, isNonD, gIx, dIsi, isTy, tyD, gLen, gAbs, gInt, gTupL, gLenL, gSumL, gTuple, dComp, noOwn, S.own, CDiv, CMul, CPow, eqvD_int, eqvD_tup, eqvD_lst, okD_int, okD_tup, okD_lst, okD_tup0, okD_lst0, eqvD_tup0, eqvD_lst0, inF_int, flatD, flat_ints, imap_inj, and_assoc, exists_eq_left, exists_eq_left', dSl, dNoPart, dPart, gSl, gStr, L25] at k ⊢
    exact ⟨by omega, by omega, by omega, by omega, k⟩
  obtain ⟨l0, s0, T, eP, hl0, hbest, hbest0⟩ := longest ps ns
  refine seq1 (L25 a x2 (.im (iT ps)) (.im (iT ns)) (.im (.lst (iL (lostP ps ns)))) (.im (.lst (iL (sortU (ns.filter fun n => !decide (n ∈ ps)))))) (.im (.tup [.bl (ns.all fun n => decide (n ∈ ps)), iT (sortU (ns.filter fun n => !decide (n ∈ ps))), iT (lostP ps ns)])) (.im (iT (ps.map fun p => (ns.count p : Int)))) (.im (iT (ps.filter fun p => !decide (p ∈ ns)))) (.im (.lst (iL (-1 :: (lostP ps ns ++ [(ns.length : Int)]))))) (.im (.lst (((l0, s0) :: T).map fun p : Int × Int => D.tup [.int p.1, .int p.2]))) x12 x13 x14 x15 x16 x17 x18 x19) (fun N k => ?_) ?_
  · rw [← eP] at k
    simp [dRet, dSeq, dIfS, dSet, dSetF, dDrop, dCall, dCallC, dArgs, dOn, dCons, dNil, dVar, dC, dBin, dChain, dUn, dAnd, dOr, dNot, dB, dAndT, dOrT, dNotT, dIf, dTup, dLst, dLstF, dFz, dItems, itemsD, dRg1, dRg2, dEnum, dZip, gZip, dCupGet, dCupSet, dNext, dRetN, dRaise, ends, start', nV, gI, gI0, DL.gSub, gMul, gFdiv, gMod, gPow, gAdd, gNeg, gLt, gLe, gGt, gGe, gEq, gNe, gIn, negB, gIs, isNonD, gIx, dIsi, isTy, tyD, gLen, gAbs, gInt, gTupL, gLenL, gSumL, gTuple, dComp, noOwn, S.own, CDiv, CMul, CPow, eqvD_int, eqvD_tup, eqvD_lst, okD_int, okD_tup, okD_lst, okD_tup0, okD_lst0, eqvD_tup0, eqvD_lst0, inF_int, flatD, flat_ints, imap_inj, and_assoc, exists_eq_left, exists_eq_left', dSl, dNoPart, dPart, gSl, gStr, L25] at k ⊢
    refine ⟨by omega, by omega, ?_⟩
    have el : ((lostP ps ns).length : Int) + 1 = (((lostP ps ns).length + 1 : Nat) : Int) := by omega
    rw [el, rgD0]
    have ep : (partsOf (-1 :: (lostP ps ns ++ [(ns.length : Int)]))).map (fun p : Int × Int => D.tup [.int p.1, .int p.2]) = (List.range ((lostP ps ns).length + 1)).map fun i => D.tup [.int (((-1 :: (lostP ps ns ++ [(ns.length : Int)])) : List Int).getD (i + 1) 0 - ((-1 :: (lostP ps ns ++ [(ns.length : Int)])) : List Int).getD i 0 - 1), .int (((-1 :: (lostP ps ns ++ [(ns.length : Int)])) : List Int).getD i 0 + 1)] := by
      unfold partsOf
      rw [List.map_map, show ((-1 :: (lostP ps ns ++ [(ns.length : Int)])) : List Int).length - 1 = (lostP ps ns).length + 1 by simp]
      rfl
    rw [ep] at k
    refine compD_mapA _ (fun i => D.tup [.int (((-1 :: (lostP ps ns ++ [(ns.length : Int)])) : List Int).getD (i + 1) 0 - ((-1 :: (lostP ps ns ++ [(ns.length : Int)])) : List Int).getD i 0 - 1), .int (((-1 :: (lostP ps ns ++ [(ns.length : Int)])) : List Int).getD i 0 + 1)]) (fun i hi K1 kk => ?_) k
    have hi' : i < (lostP ps ns).length + 1 := by simpa using hi
    have e1 := atI_ints (ns := (-1 :: (lostP ps ns ++ [(ns.length : Int)]))) (i := i) (by simp; omega)
    have e2 := atI_ints (ns := (-1 :: (lostP ps ns ++ [(ns.length : Int)]))) (i := i + 1) (by simp; omega)
    generalize ((-1 :: (lostP ps ns ++ [(ns.length : Int)])) : List Int).getD i 0 = v1 at e1 kk
    generalize ((-1 :: (lostP ps ns ++ [(ns.length : Int)])) : List Int).getD (i + 1) 0 = v2 at e2 kk
    simp at e1 e2
    simp [bindT, wipeS, dRet, dSeq, dIfS, dSet, dSetF, dDrop, dCall, dCallC, dArgs, dOn, dCons, dNil, dVar, dC, dBin, dChain, dUn, dAnd, dOr, dNot, dB, dAndT, dOrT, dNotT, dIf, dTup, dLst, dLstF, dFz, dItems, itemsD, dRg1, dRg2, dEnum, dZip, gZip, dCupGet, dCupSet, dNext, dRetN, dRaise, ends, start', nV, gI, gI0, DL.gSub, gMul, gFdiv, gMod, gPow, gAdd, gNeg, gLt, gLe, gGt, gGe, gEq, gNe, gIn, negB, gIs, isNonD, gIx, dIsi, isTy, tyD, gLen, gAbs, gInt, gTupL, gLenL, gSumL, gTuple, dComp, noOwn, S.own, CDiv, CMul, CPow, eqvD_int, eqvD_tup, eqvD_lst, okD_int, okD_tup, okD_lst, okD_tup0, okD_lst0, eqvD_tup0, eqvD_lst0, inF_int, flatD, flat_ints, imap_inj, and_assoc, exists_eq_left, exists_eq_left', dSl, dNoPart, dPart, gSl, gStr, e1, e2, sl]
    exact kk
  refine seq1 (L25 a x2 (.im (iT ps)) (.im (iT ns)) (.im (.lst (iL (lostP ps ns)))) (.im (.lst (iL (sortU (ns.filter fun n => !decide (n ∈ ps)))))) (.im (.tup [.bl (ns.all fun n => decide (n ∈ ps)), iT (sortU (ns.filter fun n => !decide (n ∈ ps))), iT (lostP ps ns)])) (.im (iT (ps.map fun p => (ns.count p : Int)))) (.im (iT (ps.filter fun p => !decide (p ∈ ns)))) (.im (.lst (iL (-1 :: (lostP ps ns ++ [(ns.length : Int)]))))) (.im (.lst (((l0, s0) :: T).map fun p : Int × Int => D.tup [.int p.1, .int p.2]))) (.im (.int (mxOf l0 T))) x13 x14 x15 x16 x17 x18 x19) (fun N k => ?_) ?_
  · simp [dRet, dSeq, dIfS, dSet, dSetF, dDrop, dCall, dCallC, dArgs, dOn, dCons, dNil, dVar, dC, dBin, dChain, dUn, dAnd, dOr, dNot, dB, dAndT, dOrT, dNotT, dIf, dTup, dLst, dLstF, dFz, dItems, itemsD, dRg1, dRg2, dEnum, dZip, gZip, dCupGet, dCupSet, dNext, dRetN, dRaise, ends, start', nV, gI, gI0, DL.gSub, gMul, gFdiv, gMod, gPow, gAdd, gNeg, gLt, gLe, gGt, gGe, gEq, gNe, gIn, negB, gIs, isNonD, gIx, dIsi, isTy, tyD, gLen, gAbs, gInt, gTupL, gLenL, gSumL, gTuple, dComp, noOwn, S.own, CDiv, CMul, CPow, eqvD_int, eqvD_tup, eqvD_lst, okD_int, okD_tup, okD_lst, okD_tup0, okD_lst0, eqvD_tup0, eqvD_lst0, inF_int, flatD, flat_ints, imap_inj, and_assoc, exists_eq_left, exists_eq_left', dSl, dNoPart, dPart, gSl, gStr, L25] at k ⊢
    refine compD_eq (show _ = ((l0, s0) :: T).map (fun p : Int × Int => D.tup [.int p.1, .int p.2]) from rfl) (compD_mapA _ (fun p => .int p.1) (fun p hp K1 kk => ?_) ?_)
    · simp [bindT, setAll, wipeS, dRet, dSeq, dIfS, dSet, dSetF, dDrop, dCall, dCallC, dArgs, dOn, dCons, dNil, dVar, dC, dBin, dChain, dUn, dAnd, dOr, dNot, dB, dAndT, dOrT, dNotT, dIf, dTup, dLst, dLstF, dFz, dItems, itemsD, dRg1, dRg2, dEnum, dZip, gZip, dCupGet, dCupSet, dNext, dRetN, dRaise, ends, start', nV, gI, gI0, DL.gSub, gMul, gFdiv, gMod, gPow, gAdd, gNeg, gLt, gLe, gGt, gGe, gEq, gNe, gIn, negB, gIs, isNonD, gIx, dIsi, isTy, tyD, gLen, gAbs, gInt, gTupL, gLenL, gSumL, gTuple, dComp, noOwn, S.own, CDiv, CMul, CPow, eqvD_int, eqvD_tup, eqvD_lst, okD_int, okD_tup, okD_lst, okD_tup0, okD_lst0, eqvD_tup0, eqvD_lst0, inF_int, flatD, flat_ints, imap_inj, and_assoc, exists_eq_left, exists_eq_left', dSl, dNoPart, dPart, gSl, gStr]
      exact kk
    · refine ⟨.int l0, iL (T.map (·.1)), by simp, by have := maxOk_ints (l0 :: T.map (·.1)); rw [iL, List.map_cons, List.map_map] at this; exact this, ?_⟩
      rw [dMax_ints]
      exact k
  refine seq1 (L25 a x2 (.im (iT ps)) (.im (iT ns)) (.im (.lst (iL (lostP ps ns)))) (.im (.lst (iL (sortU (ns.filter fun n => !decide (n ∈ ps)))))) (.im (.tup [.bl (ns.all fun n => decide (n ∈ ps)), iT (sortU (ns.filter fun n => !decide (n ∈ ps))), iT (lostP ps ns)])) (.im (iT (ps.map fun p => (ns.count p : Int)))) (.im (iT (ps.filter fun p => !decide (p ∈ ns)))) (.im (.lst (iL (-1 :: (lostP ps ns ++ [(ns.length : Int)]))))) (.im (.lst (((l0, s0) :: T).map fun p : Int × Int => D.tup [.int p.1, .int p.2]))) (.im (.int (mxOf l0 T))) (.im (iT [(longF ps ns 0 (0, 0) (0, 0)).1, (longF ps ns 0 (0, 0) (0, 0)).2])) x14 x15 x16 x17 x18 x19) (fun N k => ?_) ?_
  · simp [dRet, dSeq, dIfS, dSet, dSetF, dDrop, dCall, dCallC, dArgs, dOn, dCons, dNil, dVar, dC, dBin, dChain, dUn, dAnd, dOr, dNot, dB, dAndT, dOrT, dNotT, dIf, dTup, dLst, dLstF, dFz, dItems, itemsD, dRg1, dRg2, dEnum, dZip, gZip, dCupGet, dCupSet, dNext, dRetN, dRaise, ends, start', nV, gI, gI0, DL.gSub, gMul, gFdiv, gMod, gPow, gAdd, gNeg, gLt, gLe, gGt, gGe, gEq, gNe, gIn, negB, gIs, isNonD, gIx, dIsi, isTy, tyD, gLen, gAbs, gInt, gTupL, gLenL, gSumL, gTuple, dComp, noOwn, S.own, CDiv, CMul, CPow, eqvD_int, eqvD_tup, eqvD_lst, okD_int, okD_tup, okD_lst, okD_tup0, okD_lst0, eqvD_tup0, eqvD_lst0, inF_int, flatD, flat_ints, imap_inj, and_assoc, exists_eq_left, exists_eq_left', dSl, dNoPart, dPart, gSl, gStr, L25] at k ⊢
    by_cases hm : 0 < mxOf l0 T
    · refine .inr ⟨hm, compD_eq (show _ = ((l0, s0) :: T).map (fun p : Int × Int => D.tup [.int p.1, .int p.2]) from rfl) (compD_mapL _ (fun p => decide (p.1 = mxOf l0 T)) (fun p => .tup [.int p.2, .int p.1]) (fun p hp K1 K2 k1 k2 => ?_) ?_)⟩
      · simp [bindT, setAll, wipeS, dRet, dSeq, dIfS, dSet, dSetF, dDrop, dCall, dCallC, dArgs, dOn, dCons, dNil, dVar, dC, dBin, dChain, dUn, dAnd, dOr, dNot, dB, dAndT, dOrT, dNotT, dIf, dTup, dLst, dLstF, dFz, dItems, itemsD, dRg1, dRg2, dEnum, dZip, gZip, dCupGet, dCupSet, dNext, dRetN, dRaise, ends, start', nV, gI, gI0, DL.gSub, gMul, gFdiv, gMod, gPow, gAdd, gNeg, gLt, gLe, gGt, gGe, gEq, gNe, gIn, negB, gIs, isNonD, gIx, dIsi, isTy, tyD, gLen, gAbs, gInt, gTupL, gLenL, gSumL, gTuple, dComp, noOwn, S.own, CDiv, CMul, CPow, eqvD_int, eqvD_tup, eqvD_lst, okD_int, okD_tup, okD_lst, okD_tup0, okD_lst0, eqvD_tup0, eqvD_lst0, inF_int, flatD, flat_ints, imap_inj, and_assoc, exists_eq_left, exists_eq_left', dSl, dNoPart, dPart, gSl, gStr, sl] at k1 k2 ⊢
        by_cases c : p.1 = mxOf l0 T
        · simp [c] at k1 ⊢; exact k1
        · simp [c, k2]
      · obtain ⟨s, hf, hl⟩ := hbest hm
        rw [← List.head?_filter] at hf
        obtain ⟨r, hr⟩ : ∃ r, ((l0, s0) :: T).filter (fun p => decide (p.1 = mxOf l0 T)) = (mxOf l0 T, s) :: r := by
          cases q : ((l0, s0) :: T).filter (fun p => decide (p.1 = mxOf l0 T)) with
          | nil => rw [q] at hf; cases hf
          | cons z r => rw [q] at hf; cases hf; exact ⟨r, rfl⟩
        rw [hr, List.map_cons]
        rw [hl] at k
        exact ⟨_, atI0 _ _, k⟩
    · rw [hbest0 hm] at k
      exact .inl ⟨by omega, by omega, k⟩
  refine seq1 (L25 a x2 (.im (iT ps)) (.im (iT ns)) (.im (.lst (iL (lostP ps ns)))) (.im (.lst (iL (sortU (ns.filter fun n => !decide (n ∈ ps)))))) (.im (.tup [.bl (ns.all fun n => decide (n ∈ ps)), iT (sortU (ns.filter fun n => !decide (n ∈ ps))), iT (lostP ps ns)])) (.im (iT (ps.map fun p => (ns.count p : Int)))) (.im (iT (ps.filter fun p => !decide (p ∈ ns)))) (.im (.lst (iL (-1 :: (lostP ps ns ++ [(ns.length : Int)]))))) (.im (.lst (((l0, s0) :: T).map fun p : Int × Int => D.tup [.int p.1, .int p.2]))) (.im (.int (mxOf l0 T))) (.im (iT [(longF ps ns 0 (0, 0) (0, 0)).1, (longF ps ns 0 (0, 0) (0, 0)).2])) x14 x15 x16 x17 x18 x19) (fun N k => ?_) ?_
  · simp [dRet, dSeq, dIfS, dSet, dSetF, dDrop, dCall, dCallC, dArgs, dOn, dCons, dNil, dVar, dC, dBin, dChain, dUn, dAnd, dOr, dNot, dB, dAndT, dOrT, dNotT, dIf, dTup, dLst, dLstF, dFz, dItems, itemsD, dRg1, dRg2, dEnum, dZip, gZip, dCupGet, dCupSet, dNext, dRetN, dRaise, ends, start', nV, gI, gI0, DL.gSub, gMul, gFdiv, gMod, gPow, gAdd, gNeg, gLt, gLe, gGt, gGe, gEq, gNe, gIn, negB, gIs, isNonD, gIx, dIsi, isTy, tyD, gLen, gAbs, gInt, gTupL, gLenL, gSumL, gTuple, dComp, noOwn, S.own, CDiv, CMul, CPow, eqvD_int, eqvD_tup, eqvD_lst, okD_int, okD_tup, okD_lst, okD_tup0, okD_lst0, eqvD_tup0, eqvD_lst0, inF_int, flatD, flat_ints, imap_inj, and_assoc, exists_eq_left, exists_eq_left', dSl, dNoPart, dPart, gSl, gStr, L25, f_longest_played, f__law_same] at k ⊢
    exact ⟨hp, ht, same_ints 4 (by simp), k⟩
  refine seqP (fun ρ' => ∃ qs : List Int, (qs.length ≤ 12 ∧ (∀ n ∈ qs, -8 ≤ n ∧ n ≤ 16) ∧ qs.Pairwise (· < ·)) ∧ ρ' = L25 a x2 (.im (iT ps)) (.im (iT ns)) (.im (.lst (iL (lostP ps ns)))) (.im (.lst (iL (sortU (ns.filter fun n => !decide (n ∈ ps)))))) (.im (.tup [.bl (ns.all fun n => decide (n ∈ ps)), iT (sortU (ns.filter fun n => !decide (n ∈ ps))), iT (lostP ps ns)])) (.im (iT (ps.map fun p => (ns.count p : Int)))) (.im (iT (ps.filter fun p => !decide (p ∈ ns)))) (.im (.lst (iL (-1 :: (lostP ps ns ++ [(ns.length : Int)]))))) (.im (.lst (((l0, s0) :: T).map fun p : Int × Int => D.tup [.int p.1, .int p.2]))) (.im (.int (mxOf l0 T))) (.im (iT [(longF ps ns 0 (0, 0) (0, 0)).1, (longF ps ns 0 (0, 0) (0, 0)).2])) (.im (iT qs)) x15 x16 x17 x18 x19) (fun N k => ?_) ?_
  · simp [dRet, dSeq, dIfS, dSet, dSetF, dDrop, dCall, dCallC, dArgs, dOn, dCons, dNil, dVar, dC, dBin, dChain, dUn, dAnd, dOr, dNot, dB, dAndT, dOrT, dNotT, dIf, dTup, dLst, dLstF, dFz, dItems, itemsD, dRg1, dRg2, dEnum, dZip, gZip, dCupGet, dCupSet, dNext, dRetN, dRaise, ends, start', nV, gI, gI0, DL.gSub, gMul, gFdiv, gMod, gPow, gAdd, gNeg, gLt, gLe, gGt, gGe, gEq, gNe, gIn, negB, gIs, isNonD, gIx, dIsi, isTy, tyD, gLen, gAbs, gInt, gTupL, gLenL, gSumL, gTuple, dComp, noOwn, S.own, CDiv, CMul, CPow, eqvD_int, eqvD_tup, eqvD_lst, okD_int, okD_tup, okD_lst, okD_tup0, okD_lst0, eqvD_tup0, eqvD_lst0, inF_int, flatD, flat_ints, imap_inj, and_assoc, exists_eq_left, exists_eq_left', dSl, dNoPart, dPart, gSl, gStr, L25, f__law_pipes] at k ⊢
    exact fun ns h1 h2 h3 => k _ ns (by omega) h2 h3 rfl
  rintro _ ⟨qs, ⟨hq1, hq2, hq3⟩, rfl⟩
  have hq : okP qs := ⟨by omega, fun n hn => by have := hq2 n hn; omega, hq3⟩
  have hpq : ∀ n ∈ ps ++ qs, -8 ≤ n ∧ n ≤ 16 := fun n hn => (List.mem_append.mp hn).elim (hp2 n) (hq2 n)
  have hb := sortU_small hpq
  refine seq1 (L25 a x2 (.im (iT ps)) (.im (iT ns)) (.im (.lst (iL (lostP ps ns)))) (.im (.lst (iL (sortU (ns.filter fun n => !decide (n ∈ ps)))))) (.im (.tup [.bl (ns.all fun n => decide (n ∈ ps)), iT (sortU (ns.filter fun n => !decide (n ∈ ps))), iT (lostP ps ns)])) (.im (iT (ps.map fun p => (ns.count p : Int)))) (.im (iT (ps.filter fun p => !decide (p ∈ ns)))) (.im (.lst (iL (-1 :: (lostP ps ns ++ [(ns.length : Int)]))))) (.im (.lst (((l0, s0) :: T).map fun p : Int × Int => D.tup [.int p.1, .int p.2]))) (.im (.int (mxOf l0 T))) (.im (iT [(longF ps ns 0 (0, 0) (0, 0)).1, (longF ps ns 0 (0, 0) (0, 0)).2])) (.im (iT qs)) (.im (iT (sortU (ps ++ qs)))) x16 x17 x18 x19) (fun N k => ?_) ?_
  · simp [dRet, dSeq, dIfS, dSet, dSetF, dDrop, dCall, dCallC, dArgs, dOn, dCons, dNil, dVar, dC, dBin, dChain, dUn, dAnd, dOr, dNot, dB, dAndT, dOrT, dNotT, dIf, dTup, dLst, dLstF, dFz, dItems, itemsD, dRg1, dRg2, dEnum, dZip, gZip, dCupGet, dCupSet, dNext, dRetN, dRaise, ends, start', nV, gI, gI0, DL.gSub, gMul, gFdiv, gMod, gPow, gAdd, gNeg, gLt, gLe, gGt, gGe, gEq, gNe, gIn, negB, gIs, isNonD, gIx, dIsi, isTy, tyD, gLen, gAbs, gInt, gTupL, gLenL, gSumL, gTuple, dComp, noOwn, S.own, CDiv, CMul, CPow, eqvD_int, eqvD_tup, eqvD_lst, okD_int, okD_tup, okD_lst, okD_tup0, okD_lst0, eqvD_tup0, eqvD_lst0, inF_int, flatD, flat_ints, imap_inj, and_assoc, exists_eq_left, exists_eq_left', dSl, dNoPart, dPart, gSl, gStr, L25] at k ⊢
    refine ⟨by unfold RgB; omega, ?_⟩
    refine compD_eq (show rgD (-8) 17 = (List.range 25).map (fun i : Nat => D.int (-8 + (i : Int))) from rfl) ?_
    refine compD_mapL _ (fun i : Nat => decide (-8 + (i : Int) ∈ ps) || decide (-8 + (i : Int) ∈ qs)) (fun i => .int (-8 + (i : Int))) (fun i hi K1 K2 k1 k2 => ?_) ?_
    · simp [bindT, wipeS, dRet, dSeq, dIfS, dSet, dSetF, dDrop, dCall, dCallC, dArgs, dOn, dCons, dNil, dVar, dC, dBin, dChain, dUn, dAnd, dOr, dNot, dB, dAndT, dOrT, dNotT, dIf, dTup, dLst, dLstF, dFz, dItems, itemsD, dRg1, dRg2, dEnum, dZip, gZip, dCupGet, dCupSet, dNext, dRetN, dRaise, ends, start', nV, gI, gI0, DL.gSub, gMul, gFdiv, gMod, gPow, gAdd, gNeg, gLt, gLe, gGt, gGe, gEq, gNe, gIn, negB, gIs, isNonD, gIx, dIsi, isTy, tyD, gLen, gAbs, gInt, gTupL, gLenL, gSumL, gTuple, dComp, noOwn, S.own, CDiv, CMul, CPow, eqvD_int, eqvD_tup, eqvD_lst, okD_int, okD_tup, okD_lst, okD_tup0, okD_lst0, eqvD_tup0, eqvD_lst0, inF_int, flatD, flat_ints, imap_inj, and_assoc, exists_eq_left, exists_eq_left', dSl, dNoPart, dPart, gSl, gStr] at k1 k2 ⊢
      by_cases c : -8 + (i : Int) ∈ ps
      · simp [c] at k1 ⊢; exact k1
      · by_cases c2 : -8 + (i : Int) ∈ qs
        · simp [c, c2] at k1 ⊢; exact k1
        · simp [c, c2] at k2 ⊢; exact k2
    · have e := congrArg iL (both_eq ps qs hp2 hq2)
      rw [iL, List.filter_map, List.map_map] at e
      have e2 : ((List.range 25).filter fun i : Nat => decide (-8 + (i : Int) ∈ ps) || decide (-8 + (i : Int) ∈ qs)).map (fun i : Nat => D.int (-8 + (i : Int))) = iL (sortU (ps ++ qs)) := e
      rw [e2]
      exact k
  refine seq1 (L25 a x2 (.im (iT ps)) (.im (iT ns)) (.im (.lst (iL (lostP ps ns)))) (.im (.lst (iL (sortU (ns.filter fun n => !decide (n ∈ ps)))))) (.im (.tup [.bl (ns.all fun n => decide (n ∈ ps)), iT (sortU (ns.filter fun n => !decide (n ∈ ps))), iT (lostP ps ns)])) (.im (iT (ps.map fun p => (ns.count p : Int)))) (.im (iT (ps.filter fun p => !decide (p ∈ ns)))) (.im (.lst (iL (-1 :: (lostP ps ns ++ [(ns.length : Int)]))))) (.im (.lst (((l0, s0) :: T).map fun p : Int × Int => D.tup [.int p.1, .int p.2]))) (.im (.int (mxOf l0 T))) (.im (iT [(longF ps ns 0 (0, 0) (0, 0)).1, (longF ps ns 0 (0, 0) (0, 0)).2])) (.im (iT qs)) (.im (iT (sortU (ps ++ qs)))) x16 x17 x18 x19) (fun N k => ?_) ?_
  · simp [dRet, dSeq, dIfS, dSet, dSetF, dDrop, dCall, dCallC, dArgs, dOn, dCons, dNil, dVar, dC, dBin, dChain, dUn, dAnd, dOr, dNot, dB, dAndT, dOrT, dNotT, dIf, dTup, dLst, dLstF, dFz, dItems, itemsD, dRg1, dRg2, dEnum, dZip, gZip, dCupGet, dCupSet, dNext, dRetN, dRaise, ends, start', nV, gI, gI0, DL.gSub, gMul, gFdiv, gMod, gPow, gAdd, gNeg, gLt, gLe, gGt, gGe, gEq, gNe, gIn, negB, gIs, isNonD, gIx, dIsi, isTy, tyD, gLen, gAbs, gInt, gTupL, gLenL, gSumL, gTuple, dComp, noOwn, S.own, CDiv, CMul, CPow, eqvD_int, eqvD_tup, eqvD_lst, okD_int, okD_tup, okD_lst, okD_tup0, okD_lst0, eqvD_tup0, eqvD_lst0, inF_int, flatD, flat_ints, imap_inj, and_assoc, exists_eq_left, exists_eq_left', dSl, dNoPart, dPart, gSl, gStr, L25, f_with_pipes, f__law_same] at k ⊢
    refine ⟨hp, hq, ?_⟩
    rw [sortU_comm qs ps, if_pos hb, if_pos hb]
    refine ⟨hq, hp, by omega, rfl, same_tup 5 (by simp) ?_, k⟩
    intro x hx
    simp only [List.mem_cons, List.not_mem_nil, or_false] at hx
    rcases hx with rfl | rfl
    · exact same_ints 3 (by omega)
    · exact same_ints 3 (by omega)
  refine seqP (fun ρ' => ∃ s : Int, (-200 ≤ s ∧ s ≤ 200) ∧ ρ' = L25 a x2 (.im (iT ps)) (.im (iT ns)) (.im (.lst (iL (lostP ps ns)))) (.im (.lst (iL (sortU (ns.filter fun n => !decide (n ∈ ps)))))) (.im (.tup [.bl (ns.all fun n => decide (n ∈ ps)), iT (sortU (ns.filter fun n => !decide (n ∈ ps))), iT (lostP ps ns)])) (.im (iT (ps.map fun p => (ns.count p : Int)))) (.im (iT (ps.filter fun p => !decide (p ∈ ns)))) (.im (.lst (iL (-1 :: (lostP ps ns ++ [(ns.length : Int)]))))) (.im (.lst (((l0, s0) :: T).map fun p : Int × Int => D.tup [.int p.1, .int p.2]))) (.im (.int (mxOf l0 T))) (.im (iT [(longF ps ns 0 (0, 0) (0, 0)).1, (longF ps ns 0 (0, 0) (0, 0)).2])) (.im (iT qs)) (.im (iT (sortU (ps ++ qs)))) (.im (.int s)) x17 x18 x19) (fun N k => ?_) ?_
  · simp [dRet, dSeq, dIfS, dSet, dSetF, dDrop, dCall, dCallC, dArgs, dOn, dCons, dNil, dVar, dC, dBin, dChain, dUn, dAnd, dOr, dNot, dB, dAndT, dOrT, dNotT, dIf, dTup, dLst, dLstF, dFz, dItems, itemsD, dRg1, dRg2, dEnum, dZip, gZip, dCupGet, dCupSet, dNext, dRetN, dRaise, ends, start', nV, gI, gI0, DL.gSub, gMul, gFdiv, gMod, gPow, gAdd, gNeg, gLt, gLe, gGt, gGe, gEq, gNe, gIn, negB, gIs, isNonD, gIx, dIsi, isTy, tyD, gLen, gAbs, gInt, gTupL, gLenL, gSumL, gTuple, dComp, noOwn, S.own, CDiv, CMul, CPow, eqvD_int, eqvD_tup, eqvD_lst, okD_int, okD_tup, okD_lst, okD_tup0, okD_lst0, eqvD_tup0, eqvD_lst0, inF_int, flatD, flat_ints, imap_inj, and_assoc, exists_eq_left, exists_eq_left', dSl, dNoPart, dPart, gSl, gStr, L25, f__law_some, f__law_roll] at k ⊢
    exact fun r h0 h1 => ⟨by omega, k _ _ (by omega) (by omega) rfl, k _ _ (by omega) (by omega) rfl, k _ _ (by omega) (by omega) rfl, k _ _ (by omega) (by omega) rfl, k _ _ (by omega) (by omega) rfl, k _ _ (by omega) (by omega) rfl⟩
  rintro _ ⟨s, ⟨hs1, hs2⟩, rfl⟩
  refine seq1 (L25 a x2 (.im (iT ps)) (.im (iT ns)) (.im (.lst (iL (lostP ps ns)))) (.im (.lst (iL (sortU (ns.filter fun n => !decide (n ∈ ps)))))) (.im (.tup [.bl (ns.all fun n => decide (n ∈ ps)), iT (sortU (ns.filter fun n => !decide (n ∈ ps))), iT (lostP ps ns)])) (.im (iT (ps.map fun p => (ns.count p : Int)))) (.im (iT (ps.filter fun p => !decide (p ∈ ns)))) (.im (.lst (iL (-1 :: (lostP ps ns ++ [(ns.length : Int)]))))) (.im (.lst (((l0, s0) :: T).map fun p : Int × Int => D.tup [.int p.1, .int p.2]))) (.im (.int (mxOf l0 T))) (.im (iT [(longF ps ns 0 (0, 0) (0, 0)).1, (longF ps ns 0 (0, 0) (0, 0)).2])) (.im (iT qs)) (.im (iT (sortU (ps ++ qs)))) (.im (.int s)) (.im (iT (ps.map fun n => n + s))) x18 x19) (fun N k => ?_) ?_
  · simp [dRet, dSeq, dIfS, dSet, dSetF, dDrop, dCall, dCallC, dArgs, dOn, dCons, dNil, dVar, dC, dBin, dChain, dUn, dAnd, dOr, dNot, dB, dAndT, dOrT, dNotT, dIf, dTup, dLst, dLstF, dFz, dItems, itemsD, dRg1, dRg2, dEnum, dZip, gZip, dCupGet, dCupSet, dNext, dRetN, dRaise, ends, start', nV, gI, gI0, DL.gSub, gMul, gFdiv, gMod, gPow, gAdd, gNeg, gLt, gLe, gGt, gGe, gEq, gNe, gIn, negB, gIs, isNonD, gIx, dIsi, isTy, tyD, gLen, gAbs, gInt, gTupL, gLenL, gSumL, gTuple, dComp, noOwn, S.own, CDiv, CMul, CPow, eqvD_int, eqvD_tup, eqvD_lst, okD_int, okD_tup, okD_lst, okD_tup0, okD_lst0, eqvD_tup0, eqvD_lst0, inF_int, flatD, flat_ints, imap_inj, and_assoc, exists_eq_left, exists_eq_left', dSl, dNoPart, dPart, gSl, gStr, L25] at k ⊢
    refine compD_mapA _ (fun n => .int (n + s)) (fun p hp K1 kk => ?_) (by simpa [iT, List.map_map, Function.comp_def] using k)
    simp [bindT, wipeS, dRet, dSeq, dIfS, dSet, dSetF, dDrop, dCall, dCallC, dArgs, dOn, dCons, dNil, dVar, dC, dBin, dChain, dUn, dAnd, dOr, dNot, dB, dAndT, dOrT, dNotT, dIf, dTup, dLst, dLstF, dFz, dItems, itemsD, dRg1, dRg2, dEnum, dZip, gZip, dCupGet, dCupSet, dNext, dRetN, dRaise, ends, start', nV, gI, gI0, DL.gSub, gMul, gFdiv, gMod, gPow, gAdd, gNeg, gLt, gLe, gGt, gGe, gEq, gNe, gIn, negB, gIs, isNonD, gIx, dIsi, isTy, tyD, gLen, gAbs, gInt, gTupL, gLenL, gSumL, gTuple, dComp, noOwn, S.own, CDiv, CMul, CPow, eqvD_int, eqvD_tup, eqvD_lst, okD_int, okD_tup, okD_lst, okD_tup0, okD_lst0, eqvD_tup0, eqvD_lst0, inF_int, flatD, flat_ints, imap_inj, and_assoc, exists_eq_left, exists_eq_left', dSl, dNoPart, dPart, gSl, gStr]
    exact kk
  refine seq1 (L25 a x2 (.im (iT ps)) (.im (iT ns)) (.im (.lst (iL (lostP ps ns)))) (.im (.lst (iL (sortU (ns.filter fun n => !decide (n ∈ ps)))))) (.im (.tup [.bl (ns.all fun n => decide (n ∈ ps)), iT (sortU (ns.filter fun n => !decide (n ∈ ps))), iT (lostP ps ns)])) (.im (iT (ps.map fun p => (ns.count p : Int)))) (.im (iT (ps.filter fun p => !decide (p ∈ ns)))) (.im (.lst (iL (-1 :: (lostP ps ns ++ [(ns.length : Int)]))))) (.im (.lst (((l0, s0) :: T).map fun p : Int × Int => D.tup [.int p.1, .int p.2]))) (.im (.int (mxOf l0 T))) (.im (iT [(longF ps ns 0 (0, 0) (0, 0)).1, (longF ps ns 0 (0, 0) (0, 0)).2])) (.im (iT qs)) (.im (iT (sortU (ps ++ qs)))) (.im (.int s)) (.im (iT (ps.map fun n => n + s))) (.im (if okP (ps.map fun n => n + s) then iT (ps.map fun n => n + s) else .non)) x19) (fun N k => ?_) ?_
  · simp [dRet, dSeq, dIfS, dSet, dSetF, dDrop, dCall, dCallC, dArgs, dOn, dCons, dNil, dVar, dC, dBin, dChain, dUn, dAnd, dOr, dNot, dB, dAndT, dOrT, dNotT, dIf, dTup, dLst, dLstF, dFz, dItems, itemsD, dRg1, dRg2, dEnum, dZip, gZip, dCupGet, dCupSet, dNext, dRetN, dRaise, ends, start', nV, gI, gI0, DL.gSub, gMul, gFdiv, gMod, gPow, gAdd, gNeg, gLt, gLe, gGt, gGe, gEq, gNe, gIn, negB, gIs, isNonD, gIx, dIsi, isTy, tyD, gLen, gAbs, gInt, gTupL, gLenL, gSumL, gTuple, dComp, noOwn, S.own, CDiv, CMul, CPow, eqvD_int, eqvD_tup, eqvD_lst, okD_int, okD_tup, okD_lst, okD_tup0, okD_lst0, eqvD_tup0, eqvD_lst0, inF_int, flatD, flat_ints, imap_inj, and_assoc, exists_eq_left, exists_eq_left', dSl, dNoPart, dPart, gSl, gStr, L25, dTry, f_shifted_pipes] at k ⊢
    refine ⟨hp, hs1, hs2, ?_⟩
    split
    · rename_i c; rw [if_pos c] at k; exact k
    · rename_i c; rw [if_neg c] at k; exact k
  have fin : ∀ w : S, B.nx (L25 a x2 (.im (iT ps)) (.im (iT ns)) (.im (.lst (iL (lostP ps ns)))) (.im (.lst (iL (sortU (ns.filter fun n => !decide (n ∈ ps)))))) (.im (.tup [.bl (ns.all fun n => decide (n ∈ ps)), iT (sortU (ns.filter fun n => !decide (n ∈ ps))), iT (lostP ps ns)])) (.im (iT (ps.map fun p => (ns.count p : Int)))) (.im (iT (ps.filter fun p => !decide (p ∈ ns)))) (.im (.lst (iL (-1 :: (lostP ps ns ++ [(ns.length : Int)]))))) (.im (.lst (((l0, s0) :: T).map fun p : Int × Int => D.tup [.int p.1, .int p.2]))) (.im (.int (mxOf l0 T))) (.im (iT [(longF ps ns 0 (0, 0) (0, 0)).1, (longF ps ns 0 (0, 0) (0, 0)).2])) (.im (iT qs)) (.im (iT (sortU (ps ++ qs)))) (.im (.int s)) (.im (iT (ps.map fun n => n + s))) w x19) := fun w => hB _ _ _ _ _ _ _ _ _ _ _ _ _ _ _ _ _ _
  have ecut : decide ((ps.map fun n => n + s).filter (fun z => decide (100 < if z < 0 then -z else z)) = []) = decide (okP (ps.map fun n => n + s)) := by
    rw [decide_eq_decide, okP_shift hp, List.filter_eq_nil_iff]
    constructor
    · intro h n hn
      have := h (n + s) (List.mem_map_of_mem (f := fun n => n + s) hn)
      simp at this
      split at this <;> omega
    · intro h z hz
      obtain ⟨n, hn, rfl⟩ := List.mem_map.mp hz
      have := h n hn
      simp
      split <;> omega
  generalize hsh : (ps.map fun n => n + s) = sh at *
  have hsl : sh.length ≤ 20 := by rw [← hsh, List.length_map]; omega
  by_cases c : okP sh
  · rw [if_pos c]
    have f18 := fin (.im (iT sh))
    simp [dRet, dSeq, dIfS, dSet, dSetF, dDrop, dCall, dCallC, dArgs, dOn, dCons, dNil, dVar, dC, dBin, dChain, dUn, dAnd, dOr, dNot, dB, dAndT, dOrT, dNotT, dIf, dTup, dLst, dLstF, dFz, dItems, itemsD, dRg1, dRg2, dEnum, dZip, gZip, dCupGet, dCupSet, dNext, dRetN, dRaise, ends, start', nV, gI, gI0, DL.gSub, gMul, gFdiv, gMod, gPow, gAdd, gNeg, gLt, gLe, gGt, gGe, gEq, gNe, gIn, negB, gIs, isNonD, gIx, dIsi, isTy, tyD, gLen, gAbs, gInt, gTupL, gLenL, gSumL, gTuple, dComp, noOwn, S.own, CDiv, CMul, CPow, eqvD_int, eqvD_tup, eqvD_lst, okD_int, okD_tup, okD_lst, okD_tup0, okD_lst0, eqvD_tup0, eqvD_lst0, inF_int, flatD, flat_ints, imap_inj, and_assoc, exists_eq_left, exists_eq_left', dSl, dNoPart, dPart, gSl, gStr, L25, f__law_same] at f18 ⊢
    refine compD_mapL _ (fun z => decide (100 < if z < 0 then -z else z)) D.int (fun z hz K1 K2 k1 k2 => ?_) ?_
    · simp [bindT, wipeS, dRet, dSeq, dIfS, dSet, dSetF, dDrop, dCall, dCallC, dArgs, dOn, dCons, dNil, dVar, dC, dBin, dChain, dUn, dAnd, dOr, dNot, dB, dAndT, dOrT, dNotT, dIf, dTup, dLst, dLstF, dFz, dItems, itemsD, dRg1, dRg2, dEnum, dZip, gZip, dCupGet, dCupSet, dNext, dRetN, dRaise, ends, start', nV, gI, gI0, DL.gSub, gMul, gFdiv, gMod, gPow, gAdd, gNeg, gLt, gLe, gGt, gGe, gEq, gNe, gIn, negB, gIs, isNonD, gIx, dIsi, isTy, tyD, gLen, gAbs, gInt, gTupL, gLenL, gSumL, gTuple, dComp, noOwn, S.own, CDiv, CMul, CPow, eqvD_int, eqvD_tup, eqvD_lst, okD_int, okD_tup, okD_lst, okD_tup0, okD_lst0, eqvD_tup0, eqvD_lst0, inF_int, flatD, flat_ints, imap_inj, and_assoc, exists_eq_left, exists_eq_left', dSl, dNoPart, dPart, gSl, gStr] at k1 k2 ⊢
      generalize (if z < 0 then -z else z) = w at *
      by_cases cw : 100 < w
      · exact .inr ⟨cw, k1 cw⟩
      · exact .inl ⟨by omega, k2 (by omega)⟩
    · have hf : (sh.filter fun z => decide (100 < if z < 0 then -z else z)) = [] := of_decide_eq_true (ecut.trans (decide_eq_true c))
      rw [hf]
      simp [okD_lst0, show eqvD (.lst []) (.lst []) = true from rfl, dRet, dSeq, dIfS, dSet, dSetF, dDrop, dCall, dCallC, dArgs, dOn, dCons, dNil, dVar, dC, dBin, dChain, dUn, dAnd, dOr, dNot, dB, dAndT, dOrT, dNotT, dIf, dTup, dLst, dLstF, dFz, dItems, itemsD, dRg1, dRg2, dEnum, dZip, gZip, dCupGet, dCupSet, dNext, dRetN, dRaise, ends, start', nV, gI, gI0, DL.gSub, gMul, gFdiv, gMod, gPow, gAdd, gNeg, gLt, gLe, gGt, gGe, gEq, gNe, gIn, negB, gIs, isNonD, gIx, dIsi, isTy, tyD, gLen, gAbs, gInt, gTupL, gLenL, gSumL, gTuple, dComp, noOwn, S.own, CDiv, CMul, CPow, eqvD_int, eqvD_tup, eqvD_lst, okD_int, okD_tup, okD_lst, okD_tup0, okD_lst0, eqvD_tup0, eqvD_lst0, inF_int, flatD, flat_ints, imap_inj, and_assoc, exists_eq_left, exists_eq_left', dSl, dNoPart, dPart, gSl, gStr]
      exact ⟨same_ints 4 (by omega), f18⟩
  · rw [if_neg c]
    have f18 := fin (.im .non)
    simp [dRet, dSeq, dIfS, dSet, dSetF, dDrop, dCall, dCallC, dArgs, dOn, dCons, dNil, dVar, dC, dBin, dChain, dUn, dAnd, dOr, dNot, dB, dAndT, dOrT, dNotT, dIf, dTup, dLst, dLstF, dFz, dItems, itemsD, dRg1, dRg2, dEnum, dZip, gZip, dCupGet, dCupSet, dNext, dRetN, dRaise, ends, start', nV, gI, gI0, DL.gSub, gMul, gFdiv, gMod, gPow, gAdd, gNeg, gLt, gLe, gGt, gGe, gEq, gNe, gIn, negB, gIs, isNonD, gIx, dIsi, isTy, tyD, gLen, gAbs, gInt, gTupL, gLenL, gSumL, gTuple, dComp, noOwn, S.own, CDiv, CMul, CPow, eqvD_int, eqvD_tup, eqvD_lst, okD_int, okD_tup, okD_lst, okD_tup0, okD_lst0, eqvD_tup0, eqvD_lst0, inF_int, flatD, flat_ints, imap_inj, and_assoc, exists_eq_left, exists_eq_left', dSl, dNoPart, dPart, gSl, gStr, L25, f__law_same] at f18 ⊢
    refine compD_mapL _ (fun z => decide (100 < if z < 0 then -z else z)) D.int (fun z hz K1 K2 k1 k2 => ?_) ?_
    · simp [bindT, wipeS, dRet, dSeq, dIfS, dSet, dSetF, dDrop, dCall, dCallC, dArgs, dOn, dCons, dNil, dVar, dC, dBin, dChain, dUn, dAnd, dOr, dNot, dB, dAndT, dOrT, dNotT, dIf, dTup, dLst, dLstF, dFz, dItems, itemsD, dRg1, dRg2, dEnum, dZip, gZip, dCupGet, dCupSet, dNext, dRetN, dRaise, ends, start', nV, gI, gI0, DL.gSub, gMul, gFdiv, gMod, gPow, gAdd, gNeg, gLt, gLe, gGt, gGe, gEq, gNe, gIn, negB, gIs, isNonD, gIx, dIsi, isTy, tyD, gLen, gAbs, gInt, gTupL, gLenL, gSumL, gTuple, dComp, noOwn, S.own, CDiv, CMul, CPow, eqvD_int, eqvD_tup, eqvD_lst, okD_int, okD_tup, okD_lst, okD_tup0, okD_lst0, eqvD_tup0, eqvD_lst0, inF_int, flatD, flat_ints, imap_inj, and_assoc, exists_eq_left, exists_eq_left', dSl, dNoPart, dPart, gSl, gStr] at k1 k2 ⊢
      generalize (if z < 0 then -z else z) = w at *
      by_cases cw : 100 < w
      · exact .inr ⟨cw, k1 cw⟩
      · exact .inl ⟨by omega, k2 (by omega)⟩
    · have hf : ¬ (sh.filter fun z => decide (100 < if z < 0 then -z else z)) = [] := fun e => c (of_decide_eq_true (ecut.symm.trans (decide_eq_true e)))
      have e0 := eqvD_lst0 (sh.filter fun z => decide (100 < if z < 0 then -z else z))
      rw [decide_eq_false hf] at e0
      have e1 := okD_lst (sh.filter fun z => decide (100 < if z < 0 then -z else z))
      simp only [iL] at e0 e1
      simp [okD_lst0, e0, e1, dRet, dSeq, dIfS, dSet, dSetF, dDrop, dCall, dCallC, dArgs, dOn, dCons, dNil, dVar, dC, dBin, dChain, dUn, dAnd, dOr, dNot, dB, dAndT, dOrT, dNotT, dIf, dTup, dLst, dLstF, dFz, dItems, itemsD, dRg1, dRg2, dEnum, dZip, gZip, dCupGet, dCupSet, dNext, dRetN, dRaise, ends, start', nV, gI, gI0, DL.gSub, gMul, gFdiv, gMod, gPow, gAdd, gNeg, gLt, gLe, gGt, gGe, gEq, gNe, gIn, negB, gIs, isNonD, gIx, dIsi, isTy, tyD, gLen, gAbs, gInt, gTupL, gLenL, gSumL, gTuple, dComp, noOwn, S.own, CDiv, CMul, CPow, eqvD_int, eqvD_tup, eqvD_lst, okD_int, okD_tup, okD_lst, okD_tup0, okD_lst0, eqvD_tup0, eqvD_lst0, inF_int, flatD, flat_ints, imap_inj, and_assoc, exists_eq_left, exists_eq_left', dSl, dNoPart, dPart, gSl, gStr]
      exact ⟨True.intro, f18⟩
def ROW : List Int := (List.range 60).map fun i : Nat => (i : Int)
theorem row_ok : okP ROW := by decide +kernel
theorem row9_ok : okP (ROW.take 9) := by decide +kernel
theorem row_sort : sortU (ROW ++ ROW.take 9) = ROW := by decide +kernel
theorem row_long : longF ROW [60, 5, 6] 0 (0, 0) (0, 0) = (1, 2) := by decide +kernel
theorem row_more : ¬ (sortU (ROW ++ [60])).length ≤ 60 := by decide +kernel
theorem p_law : ∀ a, t_law a (ends (fun d => d = .bl true) (fun _ => False)) (start' 25 false [.ref a]) := by
  intro a
  have sl := sizeLine_eq
  unfold t_law
  refine seq1 (L25 a .un .un .un .un .un .un .un .un .un .un .un .un .un .un .un .un .un .un) (fun N k => ⟨rfl, k⟩) ?_
  refine seqP (fun ρ' => ∃ x2 x3 x4 x5 x6 x7 x8 x9 x10 x11 x12 x13 x14 x15 x16 x17 x18 x19 : S, ρ' = L25 a x2 x3 x4 x5 x6 x7 x8 x9 x10 x11 x12 x13 x14 x15 x16 x17 x18 x19) (fun N k => ?_) ?_
  · refine ⟨8, rfl, by omega, by omega, ?_⟩
    refine forD_inv (fun _ ρ => ∃ x2 x3 x4 x5 x6 x7 x8 x9 x10 x11 x12 x13 x14 x15 x16 x17 x18 x19 : S, ρ = L25 a x2 x3 x4 x5 x6 x7 x8 x9 x10 x11 x12 x13 x14 x15 x16 x17 x18 x19) _ 0 _ ⟨.un, .un, .un, .un, .un, .un, .un, .un, .un, .un, .un, .un, .un, .un, .un, .un, .un, .un, rfl⟩ (fun i d ρ hd hI K hK => ?_) (fun ρ hI => ?_)
    · obtain ⟨x2, x3, x4, x5, x6, x7, x8, x9, x10, x11, x12, x13, x14, x15, x16, x17, x18, x19, rfl⟩ := hI
      exact turn_law a (.im d) x3 x4 x5 x6 x7 x8 x9 x10 x11 x12 x13 x14 x15 x16 x17 x18 x19 _ fun z2 z3 z4 z5 z6 z7 z8 z9 z10 z11 z12 z13 z14 z15 z16 z17 z18 z19 => hK _ ⟨z2, z3, z4, z5, z6, z7, z8, z9, z10, z11, z12, z13, z14, z15, z16, z17, z18, z19, rfl⟩
    · exact k _ hI
  rintro _ ⟨x2, x3, x4, x5, x6, x7, x8, x9, x10, x11, x12, x13, x14, x15, x16, x17, x18, x19, rfl⟩
  refine seq1 (L25 a x2 x3 x4 x5 x6 x7 x8 x9 x10 x11 x12 x13 x14 x15 x16 x17 x18 (.im (iT ROW))) (fun N k => ?_) ?_
  · simp [dRet, dSeq, dIfS, dSet, dSetF, dDrop, dCall, dCallC, dArgs, dOn, dCons, dNil, dVar, dC, dBin, dChain, dUn, dAnd, dOr, dNot, dB, dAndT, dOrT, dNotT, dIf, dTup, dLst, dLstF, dFz, dItems, itemsD, dRg1, dRg2, dEnum, dZip, gZip, dCupGet, dCupSet, dNext, dRetN, dRaise, ends, start', nV, gI, gI0, DL.gSub, gMul, gFdiv, gMod, gPow, gAdd, gNeg, gLt, gLe, gGt, gGe, gEq, gNe, gIn, negB, gIs, isNonD, gIx, dIsi, isTy, tyD, gLen, gAbs, gInt, gTupL, gLenL, gSumL, gTuple, dComp, noOwn, S.own, CDiv, CMul, CPow, eqvD_int, eqvD_tup, eqvD_lst, okD_int, okD_tup, okD_lst, okD_tup0, okD_lst0, eqvD_tup0, eqvD_lst0, inF_int, flatD, flat_ints, imap_inj, and_assoc, exists_eq_left, exists_eq_left', dSl, dNoPart, dPart, gSl, gStr, L25, dLR] at k ⊢
    exact k
  have ct := cut_to ROW 9
  simp only [iL] at ct
  refine seq1 (L25 a x2 x3 x4 x5 x6 x7 x8 x9 x10 x11 x12 x13 x14 x15 x16 x17 x18 (.im (iT ROW))) (fun N k => ?_) ?_
  · simp [dRet, dSeq, dIfS, dSet, dSetF, dDrop, dCall, dCallC, dArgs, dOn, dCons, dNil, dVar, dC, dBin, dChain, dUn, dAnd, dOr, dNot, dB, dAndT, dOrT, dNotT, dIf, dTup, dLst, dLstF, dFz, dItems, itemsD, dRg1, dRg2, dEnum, dZip, gZip, dCupGet, dCupSet, dNext, dRetN, dRaise, ends, start', nV, gI, gI0, DL.gSub, gMul, gFdiv, gMod, gPow, gAdd, gNeg, gLt, gLe, gGt, gGe, gEq, gNe, gIn, negB, gIs, isNonD, gIx, dIsi, isTy, tyD, gLen, gAbs, gInt, gTupL, gLenL, gSumL, gTuple, dComp, noOwn, S.own, CDiv, CMul, CPow, eqvD_int, eqvD_tup, eqvD_lst, okD_int, okD_tup, okD_lst, okD_tup0, okD_lst0, eqvD_tup0, eqvD_lst0, inF_int, flatD, flat_ints, imap_inj, and_assoc, exists_eq_left, exists_eq_left', dSl, dNoPart, dPart, gSl, gStr, L25, f_with_pipes] at k ⊢
    refine ⟨ROW.take 9, by simpa using ct, row_ok, row9_ok, ?_⟩
    rw [row_sort]
    refine ⟨by decide +kernel, ROW, [], rfl, row_ok, by decide, by omega, ROW, [60, 5, 6], rfl, row_ok, by decide, ?_⟩
    refine ⟨[], 200, rfl, by decide, by omega, by omega, ?_⟩
    rw [if_pos (by decide)]
    rw [row_long]
    refine ⟨by omega, by omega, by omega, _, rfl, same_tup 5 (by simp) ?_, rfl, k⟩
    intro x hx
    simp only [List.mem_cons, List.not_mem_nil, or_false] at hx
    rcases hx with rfl | rfl | rfl | rfl
    · exact same_ints 3 (by decide +kernel)
    · exact True.intro
    · exact same_ints 3 (ns := [1, 2]) (by decide)
    · exact same_ints 3 (ns := []) (by decide)
  simp [dRet, dSeq, dIfS, dSet, dSetF, dDrop, dCall, dCallC, dArgs, dOn, dCons, dNil, dVar, dC, dBin, dChain, dUn, dAnd, dOr, dNot, dB, dAndT, dOrT, dNotT, dIf, dTup, dLst, dLstF, dFz, dItems, itemsD, dRg1, dRg2, dEnum, dZip, gZip, dCupGet, dCupSet, dNext, dRetN, dRaise, ends, start', nV, gI, gI0, DL.gSub, gMul, gFdiv, gMod, gPow, gAdd, gNeg, gLt, gLe, gGt, gGe, gEq, gNe, gIn, negB, gIs, isNonD, gIx, dIsi, isTy, tyD, gLen, gAbs, gInt, gTupL, gLenL, gSumL, gTuple, dComp, noOwn, S.own, CDiv, CMul, CPow, eqvD_int, eqvD_tup, eqvD_lst, okD_int, okD_tup, okD_lst, okD_tup0, okD_lst0, eqvD_tup0, eqvD_lst0, inF_int, flatD, flat_ints, imap_inj, and_assoc, exists_eq_left, exists_eq_left', dSl, dNoPart, dPart, gSl, gStr, L25, dTry, f_with_pipes]
  refine ⟨by omega, [60], rfl, row_ok, by decide, ?_⟩
  have := row_more
  omega
theorem h_law (T : Top K mg) {fd : FuncData} (Fd : FnP K "law" s_law (He.ga K "law") fd) : FnOk P w K mg base (L2.CX P w) 8 (He.ga K "law") fd ["script"] (spLaw K) := by
  have h__law_cup := h__law_cup (P := P) (w := w) (base := base) T
  have h__law_roll := h__law_roll (P := P) (w := w) (base := base) T
  have h__law_pipes := h__law_pipes (P := P) (w := w) (base := base) T
  have h__law_tune := h__law_tune (P := P) (w := w) (base := base) T
  have h__law_some := h__law_some (P := P) (w := w) (base := base) T
  have h__law_same := h__law_same (P := P) (w := w) (base := base) T
  have h_with_pipes := h_with_pipes (P := P) (w := w) (base := base) T
  have h_can_play := h_can_play (P := P) (w := w) (base := base) T
  have h_lacking := h_lacking (P := P) (w := w) (base := base) T
  have h_lost_places := h_lost_places (P := P) (w := w) (base := base) T
  have h_shifted_pipes := h_shifted_pipes (P := P) (w := w) (base := base) T
  have h_is_pipes := h_is_pipes (P := P) (w := w) (base := base) T
  have h_longest_played := h_longest_played (P := P) (w := w) (base := base) T
  have h_turn_counts := h_turn_counts (P := P) (w := w) (base := base) T
  have h_idle_pipes := h_idle_pipes (P := P) (w := w) (base := base) T
  exact law_ok (k := 7) (t := t_law) Fd sc_law (fun cd A outer s H E F a ns hF hS hl B => (ss_cons (s_cup0 1 0 h__law_cup B (by decide) hF hS hl rfl sc_law.nd rfl (by first | exact Or.inl rfl | exact Or.inr rfl))
    (ss_cons (s_for (tgt := (.nm 2)) B.own B.toBd.calm (i_rg1 rfl T.m_range e_int) (gt_nm 2) (pg_name sc_law.nd rfl (by first | exact Or.inl rfl | exact Or.inr rfl)) (ss_cons (s_set 3 sc_law.nd rfl (by first | exact Or.inl rfl | exact Or.inr rfl) (e_hC 1 h__law_pipes B.toBd (by decide) rfl (a_cons (e_hC 1 h__law_some B.toBd (by decide) rfl (a_cons (e_lst (a_cons e_int (a_cons e_int (a_cons e_int a_nil)))) a_nil)) a_nil)))
    (ss_cons (s_set 4 sc_law.nd rfl (by first | exact Or.inl rfl | exact Or.inr rfl) (e_hC 1 h__law_tune B.toBd (by decide) rfl (a_cons e_int (a_cons e_int a_nil))))
    (ss_cons (s_if (PW.pt (w_and (t_cmp (op_neD B.toBd.u) opd_ne (e_var 3) (e_tup a_nil) rfl) (w_and1 (t_cmp (op_eqD B.toBd.u) opd_eq (e_hC 1 h__law_roll B.toBd (by decide) rfl (a_cons e_int a_nil)) e_int rfl)))) (ss_one (s_set 4 sc_law.nd rfl (by first | exact Or.inl rfl | exact Or.inr rfl) (e_onLTy call_tupleF cl_tuple rfl T.m_tuple (by decide +kernel) (l_ofF (f_comp (tgt := (.nm 20)) [("tone", 20)] B.toBd sc_law.nd (by kernel_rfl) (by rfl) (i_rg1 rfl T.m_range (e_hC 1 h__law_roll B.toBd (by decide) rfl (a_cons e_int a_nil))) (gt_nm 20) (fun _ _ _ _ _ => (pg_name sc_law.nd rfl (by first | exact Or.inl rfl | exact Or.inr rfl))) (fun _ _ _ _ _ => ts_nil) (fun _ _ _ _ _ => (e_hC 1 h__law_some B.toBd.blk (by decide) rfl (a_cons (e_var 3) a_nil)))))))) ss_nil)
    (ss_cons (s_comp 5 (tgt := (.nm 21)) [("at", 21)] B.toBd sc_law.nd (by kernel_rfl) (by rfl) (i_rg1 rfl T.m_range (e_callB call_len cd_len rfl T.m_len (by decide +kernel) (a_cons (e_var 4) a_nil))) (gt_nm 21) (fun _ _ _ _ _ => (pg_name sc_law.nd rfl (by first | exact Or.inl rfl | exact Or.inr rfl))) (fun _ _ _ _ _ => (ts_one (t_cmp (opr_notIn B.toBd.blk.u1) opd_notIn (e_ix (e_var 4) (e_var 21)) (e_var 3) rfl))) (fun _ _ _ _ _ => (e_var 21)))
    (ss_cons (s_set 6 sc_law.nd rfl (by first | exact Or.inl rfl | exact Or.inr rfl) (e_sortK B.toBd.calm rfl T.m_sorted (k_ofE (e_onLTy (call_dictP B.toBd.calm) cl_dict rfl T.m_dict (by decide +kernel) (l_ofF (f_comp (tgt := (.nm 21)) [("at", 21)] B.toBd sc_law.nd (by kernel_rfl) (by rfl) (i_seq (e_var 5)) (gt_nm 21) (fun _ _ _ _ _ => (pg_name sc_law.nd rfl (by first | exact Or.inl rfl | exact Or.inr rfl))) (fun _ _ _ _ _ => ts_nil) (fun _ _ _ _ _ => (e_tup (a_cons (e_ix (e_var 4) (e_var 21)) (a_cons e_bl a_nil))))))))))
    (ss_cons (s_set 7 sc_law.nd rfl (by first | exact Or.inl rfl | exact Or.inr rfl) (e_tup (a_cons (e_h h_can_play B.toBd (by decide) rfl (a_cons (e_var 3) (a_cons (e_var 4) a_nil))) (a_cons (e_h h_lacking B.toBd (by decide) rfl (a_cons (e_var 3) (a_cons (e_var 4) a_nil))) (a_cons (e_h h_lost_places B.toBd (by decide) rfl (a_cons (e_var 3) (a_cons (e_var 4) a_nil))) a_nil)))))
    (ss_cons (s_if (PW.pt (w_or (t_cmp opr_isNot opd_isNot (e_h h_is_pipes B.toBd (by decide) rfl (a_cons (e_var 3) a_nil)) e_bl rfl) (w_or1 (t_not (t_val (e_h (h__law_same 6) B.toBd (by decide) rfl (a_cons (e_var 7) (a_cons (e_tup (a_cons (e_cmp (op_eqD B.toBd.u) opd_eq (e_var 5) (e_lst a_nil) rfl) (a_cons (e_callTy call_tupleF cd_tuple rfl T.m_tuple (by decide +kernel) (a_cons (e_var 6) a_nil)) (a_cons (e_callTy call_tupleF cd_tuple rfl T.m_tuple (by decide +kernel) (a_cons (e_var 5) a_nil)) a_nil)))) a_nil)))))))) (ss_one (s_ret e_bl)) ss_nil)
    (ss_cons (s_set 8 sc_law.nd rfl (by first | exact Or.inl rfl | exact Or.inr rfl) (e_onLTy call_tupleF cl_tuple rfl T.m_tuple (by decide +kernel) (l_ofF (f_comp (tgt := (.nm 22)) [("pipe", 22)] B.toBd sc_law.nd (by kernel_rfl) (by rfl) (i_seq (e_var 3)) (gt_nm 22) (fun _ _ _ _ _ => (pg_name sc_law.nd rfl (by first | exact Or.inl rfl | exact Or.inr rfl))) (fun _ _ _ _ _ => ts_nil) (fun _ _ _ _ _ => (e_onL call_len cl_len rfl T.m_len (by decide +kernel) (l_ofF (f_comp (tgt := (.nm 20)) [("tone", 20)] B.toBd.blk sc_law.nd (by kernel_rfl) (by rfl) (i_seq (e_var 4)) (gt_nm 20) (fun _ _ _ _ _ => (pg_name sc_law.nd rfl (by first | exact Or.inl rfl | exact Or.inr rfl))) (fun _ _ _ _ _ => (ts_one (t_cmp (op_eqD B.toBd.blk.blk.u) opd_eq (e_var 20) (e_var 22) rfl))) (fun _ _ _ _ _ => e_int)))))))))
    (ss_cons (s_set 9 sc_law.nd rfl (by first | exact Or.inl rfl | exact Or.inr rfl) (e_onLTy call_tupleF cl_tuple rfl T.m_tuple (by decide +kernel) (l_ofF (f_comp (tgt := (.tp [22, 23])) [("pipe", 22), ("many", 23)] B.toBd sc_law.nd (by kernel_rfl) (by rfl) (i_zip rfl T.m_zip (e_var 3) (e_var 8)) (gt_tp [22, 23]) (fun _ _ _ _ _ => (pg_tup B.toBd.calm (pgs_cons (pg_name sc_law.nd rfl (by first | exact Or.inl rfl | exact Or.inr rfl)) (pgs_cons (pg_name sc_law.nd rfl (by first | exact Or.inl rfl | exact Or.inr rfl)) pgs_nil)))) (fun _ _ _ _ _ => (ts_one (t_cmp (op_eqD B.toBd.blk.u) opd_eq (e_var 23) e_int rfl))) (fun _ _ _ _ _ => (e_var 22))))))
    (ss_cons (s_if (PW.pt (w_or (t_not (t_val (e_h (h__law_same 6) B.toBd (by decide) rfl (a_cons (e_tup (a_cons (e_h h_turn_counts B.toBd (by decide) rfl (a_cons (e_var 3) (a_cons (e_var 4) a_nil))) (a_cons (e_h h_idle_pipes B.toBd (by decide) rfl (a_cons (e_var 3) (a_cons (e_var 4) a_nil))) a_nil))) (a_cons (e_tup (a_cons (e_var 8) (a_cons (e_var 9) a_nil))) a_nil))))) (w_or1 (t_cmp (op_neD B.toBd.u) opd_ne (e_bin opr_add opd_add (e_callB (cr_sumA B.toBd.calm) cd_sum rfl T.m_sum (by decide +kernel) (a_cons (e_var 8) a_nil)) (e_callB call_len cd_len rfl T.m_len (by decide +kernel) (a_cons (e_var 5) a_nil))) (e_callB call_len cd_len rfl T.m_len (by decide +kernel) (a_cons (e_var 4) a_nil)) rfl)))) (ss_one (s_ret e_bl)) ss_nil)
    (ss_cons (s_set 10 sc_law.nd rfl (by first | exact Or.inl rfl | exact Or.inr rfl) (e_bin opr_add opd_add (e_bin opr_add opd_add (e_lst (a_cons (e_neg e_int) a_nil)) (e_var 5)) (e_lst (a_cons (e_callB call_len cd_len rfl T.m_len (by decide +kernel) (a_cons (e_var 4) a_nil)) a_nil))))
    (ss_cons (s_comp 11 (tgt := (.nm 21)) [("at", 21)] B.toBd sc_law.nd (by kernel_rfl) (by rfl) (i_rg1 rfl T.m_range (e_bin op_sub opd_I0 (e_callB call_len cd_len rfl T.m_len (by decide +kernel) (a_cons (e_var 10) a_nil)) e_int)) (gt_nm 21) (fun _ _ _ _ _ => (pg_name sc_law.nd rfl (by first | exact Or.inl rfl | exact Or.inr rfl))) (fun _ _ _ _ _ => ts_nil) (fun _ _ _ _ _ => (e_tup (a_cons (e_bin op_sub opd_I0 (e_bin op_sub opd_I0 (e_ix (e_var 10) (e_bin opr_add opd_add (e_var 21) e_int)) (e_ix (e_var 10) (e_var 21))) e_int) (a_cons (e_bin opr_add opd_add (e_ix (e_var 10) (e_var 21)) e_int) a_nil)))))
    (ss_cons (s_set 12 sc_law.nd rfl (by first | exact Or.inl rfl | exact Or.inr rfl) (e_onL (cr_maxD B.toBd.calm B.toBd.u) cl_best rfl T.m_max (by decide +kernel) (l_ofF (f_comp (tgt := (.tp [23, 24])) [("many", 23), ("first", 24)] B.toBd sc_law.nd (by kernel_rfl) (by rfl) (i_seq (e_var 11)) (gt_tp [23, 24]) (fun _ _ _ _ _ => (pg_tup B.toBd.calm (pgs_cons (pg_name sc_law.nd rfl (by first | exact Or.inl rfl | exact Or.inr rfl)) (pgs_cons (pg_name sc_law.nd rfl (by first | exact Or.inl rfl | exact Or.inr rfl)) pgs_nil)))) (fun _ _ _ _ _ => ts_nil) (fun _ _ _ _ _ => (e_var 23))))))
    (ss_cons (s_set 13 sc_law.nd rfl (by first | exact Or.inl rfl | exact Or.inr rfl) (e_if (t_cmp op_gt opd_B0 (e_var 12) e_int rfl) (e_ix (e_fz (f_comp (tgt := (.tp [23, 24])) [("many", 23), ("first", 24)] B.toBd sc_law.nd (by kernel_rfl) (by rfl) (i_seq (e_var 11)) (gt_tp [23, 24]) (fun _ _ _ _ _ => (pg_tup B.toBd.calm (pgs_cons (pg_name sc_law.nd rfl (by first | exact Or.inl rfl | exact Or.inr rfl)) (pgs_cons (pg_name sc_law.nd rfl (by first | exact Or.inl rfl | exact Or.inr rfl)) pgs_nil)))) (fun _ _ _ _ _ => (ts_one (t_cmp (op_eqD B.toBd.blk.u) opd_eq (e_var 23) (e_var 12) rfl))) (fun _ _ _ _ _ => (e_tup (a_cons (e_var 24) (a_cons (e_var 23) a_nil)))))) e_int) (e_tup (a_cons e_int (a_cons e_int a_nil)))))
    (ss_cons (s_if (t_not (t_val (e_h (h__law_same 6) B.toBd (by decide) rfl (a_cons (e_h h_longest_played B.toBd (by decide) rfl (a_cons (e_var 3) (a_cons (e_var 4) a_nil))) (a_cons (e_var 13) a_nil))))) (ss_one (s_ret e_bl)) ss_nil)
    (ss_cons (s_set 14 sc_law.nd rfl (by first | exact Or.inl rfl | exact Or.inr rfl) (e_hC 1 h__law_pipes B.toBd (by decide) rfl (a_cons e_int a_nil)))
    (ss_cons (s_set 15 sc_law.nd rfl (by first | exact Or.inl rfl | exact Or.inr rfl) (e_onLTy call_tupleF cl_tuple rfl T.m_tuple (by decide +kernel) (l_ofF (f_comp (tgt := (.nm 20)) [("tone", 20)] B.toBd sc_law.nd (by kernel_rfl) (by rfl) (i_rg2 rfl T.m_range (e_neg e_int) e_int) (gt_nm 20) (fun _ _ _ _ _ => (pg_name sc_law.nd rfl (by first | exact Or.inl rfl | exact Or.inr rfl))) (fun _ _ _ _ _ => (ts_one (PW.pt (w_or (t_cmp (opr_in B.toBd.blk.u1) opd_in (e_var 20) (e_var 3) rfl) (w_or1 (t_cmp (opr_in B.toBd.blk.u1) opd_in (e_var 20) (e_var 14) rfl)))))) (fun _ _ _ _ _ => (e_var 20))))))
    (ss_cons (s_if (t_not (t_val (e_h (h__law_same 6) B.toBd (by decide) rfl (a_cons (e_tup (a_cons (e_h h_with_pipes B.toBd (by decide) rfl (a_cons (e_var 3) (a_cons (e_var 14) a_nil))) (a_cons (e_h h_with_pipes B.toBd (by decide) rfl (a_cons (e_var 14) (a_cons (e_var 3) a_nil))) a_nil))) (a_cons (e_tup (a_cons (e_var 15) (a_cons (e_var 15) a_nil))) a_nil))))) (ss_one (s_ret e_bl)) ss_nil)
    (ss_cons (s_set 16 sc_law.nd rfl (by first | exact Or.inl rfl | exact Or.inr rfl) (e_hC 1 h__law_some B.toBd (by decide) rfl (a_cons (e_lst (a_cons (e_bin op_sub opd_I0 (e_hC 1 h__law_roll B.toBd (by decide) rfl (a_cons e_int a_nil)) e_int) (a_cons e_int (a_cons e_int (a_cons (e_neg e_int) (a_cons (e_neg e_int) (a_cons e_int a_nil))))))) a_nil)))
    (ss_cons (s_set 17 sc_law.nd rfl (by first | exact Or.inl rfl | exact Or.inr rfl) (e_onLTy call_tupleF cl_tuple rfl T.m_tuple (by decide +kernel) (l_ofF (f_comp (tgt := (.nm 22)) [("pipe", 22)] B.toBd sc_law.nd (by kernel_rfl) (by rfl) (i_seq (e_var 3)) (gt_nm 22) (fun _ _ _ _ _ => (pg_name sc_law.nd rfl (by first | exact Or.inl rfl | exact Or.inr rfl))) (fun _ _ _ _ _ => ts_nil) (fun _ _ _ _ _ => (e_bin opr_add opd_add (e_var 22) (e_var 16)))))))
    (ss_cons (s_try (cs := ["InvalidNumber"]) B rfl rfl (names_of T.x_InvalidNumber rfl) (by exact T.t_InvalidNumber) (fun _ _ _ B => (ss_one (s_set 18 sc_law.nd rfl (by first | exact Or.inl rfl | exact Or.inr rfl) (e_h h_shifted_pipes B.toBd (by decide) rfl (a_cons (e_var 3) (a_cons (e_var 16) a_nil)))))) (fun _ _ _ => (ss_one (s_set 18 sc_law.nd rfl (by first | exact Or.inl rfl | exact Or.inr rfl) e_non))))
    (ss_one (s_if (t_not (t_val (e_h (h__law_same 6) B.toBd (by decide) rfl (a_cons (e_var 18) (a_cons (e_if (t_cmp (op_eqD B.toBd.u) opd_eq (e_fz (f_comp (tgt := (.nm 22)) [("pipe", 22)] B.toBd sc_law.nd (by kernel_rfl) (by rfl) (i_seq (e_var 17)) (gt_nm 22) (fun _ _ _ _ _ => (pg_name sc_law.nd rfl (by first | exact Or.inl rfl | exact Or.inr rfl))) (fun _ _ _ _ _ => (ts_one (t_cmp op_gt opd_B0 (e_callB call_abs cd_abs rfl T.m_abs (by decide +kernel) (a_cons (e_var 22) a_nil)) e_int rfl))) (fun _ _ _ _ _ => (e_var 22)))) (e_lst a_nil) rfl) (e_var 17) e_non) a_nil))))) (ss_one (s_ret e_bl)) ss_nil))))))))))))))))))))))))
    (ss_cons (s_set 19 sc_law.nd rfl (by first | exact Or.inl rfl | exact Or.inr rfl) (e_callTy call_tupleF cd_tuple rfl T.m_tuple (by decide +kernel) (a_cons (e_listRg1 B.toBd.calm rfl T.m_list rfl T.m_range e_int) a_nil)))
    (ss_cons (s_if (t_not (t_val (e_h (h__law_same 6) B.toBd (by decide) rfl (a_cons (e_tup (a_cons (e_h h_with_pipes B.toBd (by decide) rfl (a_cons (e_var 19) (a_cons (e_sl (e_var 19) o_none (o_some e_int)) a_nil))) (a_cons (e_h h_can_play B.toBd (by decide) rfl (a_cons (e_var 19) (a_cons (e_tup a_nil) a_nil))) (a_cons (e_h h_longest_played B.toBd (by decide) rfl (a_cons (e_var 19) (a_cons (e_tup (a_cons e_int (a_cons e_int (a_cons e_int a_nil)))) a_nil))) (a_cons (e_h h_shifted_pipes B.toBd (by decide) rfl (a_cons (e_tup a_nil) (a_cons e_int a_nil))) a_nil))))) (a_cons (e_tup (a_cons (e_var 19) (a_cons e_bl (a_cons (e_tup (a_cons e_int (a_cons e_int a_nil))) (a_cons (e_tup a_nil) a_nil))))) a_nil))))) (ss_one (s_ret e_bl)) ss_nil)
    (ss_cons (s_try (cs := ["InvalidNumber"]) B rfl rfl (names_of T.x_InvalidNumber rfl) (by exact T.t_InvalidNumber) (fun _ _ _ B => (ss_one (s_expr (e_h h_with_pipes B.toBd (by decide) rfl (a_cons (e_var 19) (a_cons (e_tup (a_cons e_int a_nil)) a_nil)))))) (fun _ _ _ => (ss_one (s_ret e_bl))))
    (ss_one (s_ret e_bl)))))))) p_law
end
end K55
namespace K55
open PySem PySem.Spec PyProof.Rows L2 DL
def dd__law_cup : He.DefD := ⟨("_law_cup", none), "_law_cup", "_law_cup", defArgs s__law_cup, defBody s__law_cup, defScope s__law_cup, [], []⟩
def dd__law_roll : He.DefD := ⟨("_law_roll", none), "_law_roll", "_law_roll", defArgs s__law_roll, defBody s__law_roll, defScope s__law_roll, [], []⟩
def dd__law_pipes : He.DefD := ⟨("_law_pipes", none), "_law_pipes", "_law_pipes", defArgs s__law_pipes, defBody s__law_pipes, defScope s__law_pipes, [], []⟩
def dd__law_tune : He.DefD := ⟨("_law_tune", none), "_law_tune", "_law_tune", defArgs s__law_tune, defBody s__law_tune, defScope s__law_tune, [], []⟩
def dd__law_some : He.DefD := ⟨("_law_some", none), "_law_some", "_law_some", defArgs s__law_some, defBody s__law_some, defScope s__law_some, [], []⟩
def dd__law_same : He.DefD := ⟨("_law_same", none), "_law_same", "_law_same", defArgs s__law_same, defBody s__law_same, defScope s__law_same, [], []⟩
def dd_is_tuple_of : He.DefD := ⟨("is_tuple_of", none), "is_tuple_of", "is_tuple_of", defArgs s_is_tuple_of, defBody s_is_tuple_of, defScope s_is_tuple_of, [], []⟩
def dd_is_rising : He.DefD := ⟨("is_rising", none), "is_rising", "is_rising", defArgs s_is_rising, defBody s_is_rising, defScope s_is_rising, [], []⟩
def dd_is_whole : He.DefD := ⟨("is_whole", none), "is_whole", "is_whole", defArgs s_is_whole, defBody s_is_whole, defScope s_is_whole, [], []⟩
def dd_fits_whole : He.DefD := ⟨("fits_whole", none), "fits_whole", "fits_whole", defArgs s_fits_whole, defBody s_fits_whole, defScope s_fits_whole, [], []⟩
def dd_fits_tone : He.DefD := ⟨("fits_tone", none), "fits_tone", "fits_tone", defArgs s_fits_tone, defBody s_fits_tone, defScope s_fits_tone, [], []⟩
def dd_fits_pipes : He.DefD := ⟨("fits_pipes", none), "fits_pipes", "fits_pipes", defArgs s_fits_pipes, defBody s_fits_pipes, defScope s_fits_pipes, [], []⟩
def dd_need_pipes : He.DefD := ⟨("need_pipes", none), "need_pipes", "need_pipes", defArgs s_need_pipes, defBody s_need_pipes, defScope s_need_pipes, [], []⟩
def dd_with_pipes : He.DefD := ⟨("with_pipes", none), "with_pipes", "with_pipes", defArgs s_with_pipes, defBody s_with_pipes, defScope s_with_pipes, [], []⟩
def dd_fits_tune : He.DefD := ⟨("fits_tune", none), "fits_tune", "fits_tune", defArgs s_fits_tune, defBody s_fits_tune, defScope s_fits_tune, [], []⟩
def dd_need_tune : He.DefD := ⟨("need_tune", none), "need_tune", "need_tune", defArgs s_need_tune, defBody s_need_tune, defScope s_need_tune, [], []⟩
def dd_need_both : He.DefD := ⟨("need_both", none), "need_both", "need_both", defArgs s_need_both, defBody s_need_both, defScope s_need_both, [], []⟩
def dd_can_in : He.DefD := ⟨("can_in", none), "can_in", "can_in", defArgs s_can_in, defBody s_can_in, defScope s_can_in, [], []⟩
def dd_can_play : He.DefD := ⟨("can_play", none), "can_play", "can_play", defArgs s_can_play, defBody s_can_play, defScope s_can_play, [], []⟩
def dd_lacks_in : He.DefD := ⟨("lacks_in", none), "lacks_in", "lacks_in", defArgs s_lacks_in, defBody s_lacks_in, defScope s_lacks_in, [], []⟩
def dd_lacking : He.DefD := ⟨("lacking", none), "lacking", "lacking", defArgs s_lacking, defBody s_lacking, defScope s_lacking, [], []⟩
def dd_lost_places : He.DefD := ⟨("lost_places", none), "lost_places", "lost_places", defArgs s_lost_places, defBody s_lost_places, defScope s_lost_places, [], []⟩
def dd_moved : He.DefD := ⟨("moved", none), "moved", "moved", defArgs s_moved, defBody s_moved, defScope s_moved, [], []⟩
def dd_shifted_pipes : He.DefD := ⟨("shifted_pipes", none), "shifted_pipes", "shifted_pipes", defArgs s_shifted_pipes, defBody s_shifted_pipes, defScope s_shifted_pipes, [], []⟩
def dd_is_pipes : He.DefD := ⟨("is_pipes", none), "is_pipes", "is_pipes", defArgs s_is_pipes, defBody s_is_pipes, defScope s_is_pipes, [], []⟩
def dd_longest_played : He.DefD := ⟨("longest_played", none), "longest_played", "longest_played", defArgs s_longest_played, defBody s_longest_played, defScope s_longest_played, [], []⟩
def dd_turn_counts : He.DefD := ⟨("turn_counts", none), "turn_counts", "turn_counts", defArgs s_turn_counts, defBody s_turn_counts, defScope s_turn_counts, [], []⟩
def dd_idle_pipes : He.DefD := ⟨("idle_pipes", none), "idle_pipes", "idle_pipes", defArgs s_idle_pipes, defBody s_idle_pipes, defScope s_idle_pipes, [], []⟩
def dd_law : He.DefD := ⟨("law", none), "law", "law", defArgs s_law, defBody s_law, defScope s_law, [], []⟩
def fn : List He.DefD := [dd__law_cup, dd__law_roll, dd__law_pipes, dd__law_tune, dd__law_some, dd__law_same, dd_is_tuple_of, dd_is_rising, dd_is_whole, dd_fits_whole, dd_fits_tone, dd_fits_pipes, dd_need_pipes, dd_with_pipes, dd_fits_tune, dd_need_tune, dd_need_both, dd_can_in, dd_can_play, dd_lacks_in, dd_lacking, dd_lost_places, dd_moved, dd_shifted_pipes, dd_is_pipes, dd_longest_played, dd_turn_counts, dd_idle_pipes, dd_law]
def fa : List He.Fa := [.glo "_law_cup", .glo "_law_roll", .glo "_law_pipes", .glo "_law_tune", .glo "_law_some", .glo "_law_same", .glo "is_tuple_of", .glo "is_rising", .glo "is_whole", .glo "fits_whole", .glo "fits_tone", .glo "fits_pipes", .glo "need_pipes", .glo "with_pipes", .glo "fits_tune", .glo "need_tune", .glo "need_both", .glo "can_in", .glo "can_play", .glo "lacks_in", .glo "lacking", .glo "lost_places", .glo "moved", .glo "shifted_pipes", .glo "is_pipes", .glo "longest_played", .glo "turn_counts", .glo "idle_pipes", .glo "law", .free "abs", .free "all", .free "bool", .free "dict", .free "enumerate", .free "int", .free "isinstance", .free "len", .free "list", .free "max", .free "range", .free "set", .free "sorted", .free "str", .free "sum", .free "tuple", .free "zip", .int "HIGH" 100, .int "LONGEST" 60, .int "PIPES" 60, .int "SHIFT" 200, .glo "InvalidNumber", .glo "InvalidSet", .glo "InvalidTune", .exc "InvalidNumber", .exc "InvalidSet", .exc "InvalidTune", .exm "InvalidNumber" "InvalidNumber" true]
abbrev R : PySem.W.OpenRow := PySem.W.OpenLaw.row PySem.Challenge.rw_toneyard_k55_whole_tunes_played
abbrev hk : PySem.W.Hook := He.hookD 5 fa fn
def ob (s : PySem.W.SharedT) : He.AlD := He.obsDG 5 fa fn (HandSHeadRun.getT s)
theorem ob_eq (s : PySem.W.SharedT) : ob s = hk.obs s.abs := He.obsDG_eq (HandSHeadRun.getT_eq s)
def nms0 : List PySem.Str := ["ToneError", "InvalidTune", "InvalidSet", "InvalidNumber", "HIGH", "LONGEST", "is_whole", "fits_whole", "is_tuple_of", "is_rising", "fits_tone", "fits_tune", "need_tune", "PIPES", "SHIFT", "fits_pipes", "need_pipes", "need_both", "can_in", "lacks_in", "moved", "is_pipes", "can_play", "lacking", "lost_places", "longest_played", "idle_pipes", "turn_counts", "with_pipes", "shifted_pipes"]
def nms1 : List PySem.Str := ["_law_cup", "_law_roll", "_law_some", "_law_same", "_law_tune", "_law_pipes"]
def nms : List PySem.Str := nms0 ++ nms1
theorem run (w : World) : HandSHeadRun.RunEq R (PySem.W.view R.prog [40]) hk ob 6000 nms w := by
  intro os
  kernel_rfl
theorem top_ok {K : PySem.W.Frag} {h : Heap} {mg : Str → Option Value} (X : K.In h) (G : h.Ns mainGlobals mg) (c : He.SaysD fa fn K) : Top K mg where
  m_abs := He.free_ok X G (c.fact 29 (f := .free "abs") rfl)
  m_all := He.free_ok X G (c.fact 30 (f := .free "all") rfl)
  m_bool := He.free_ok X G (c.fact 31 (f := .free "bool") rfl)
  m_dict := He.free_ok X G (c.fact 32 (f := .free "dict") rfl)
  m_enumerate := He.free_ok X G (c.fact 33 (f := .free "enumerate") rfl)
  m_int := He.free_ok X G (c.fact 34 (f := .free "int") rfl)
  m_isinstance := He.free_ok X G (c.fact 35 (f := .free "isinstance") rfl)
  m_len := He.free_ok X G (c.fact 36 (f := .free "len") rfl)
  m_list := He.free_ok X G (c.fact 37 (f := .free "list") rfl)
  m_max := He.free_ok X G (c.fact 38 (f := .free "max") rfl)
  m_range := He.free_ok X G (c.fact 39 (f := .free "range") rfl)
  m_set := He.free_ok X G (c.fact 40 (f := .free "set") rfl)
  m_sorted := He.free_ok X G (c.fact 41 (f := .free "sorted") rfl)
  m_str := He.free_ok X G (c.fact 42 (f := .free "str") rfl)
  m_sum := He.free_ok X G (c.fact 43 (f := .free "sum") rfl)
  m_tuple := He.free_ok X G (c.fact 44 (f := .free "tuple") rfl)
  m_zip := He.free_ok X G (c.fact 45 (f := .free "zip") rfl)
  c_HIGH := He.int_ok X G (c.fact 46 (f := .int "HIGH" 100) rfl)
  c_LONGEST := He.int_ok X G (c.fact 47 (f := .int "LONGEST" 60) rfl)
  c_PIPES := He.int_ok X G (c.fact 48 (f := .int "PIPES" 60) rfl)
  c_SHIFT := He.int_ok X G (c.fact 49 (f := .int "SHIFT" 200) rfl)
  x_InvalidNumber := ⟨He.glo_ok X G (c.fact 50 (f := .glo "InvalidNumber") rfl), He.exc_ok (c.fact 53 (f := .exc "InvalidNumber") rfl)⟩
  x_InvalidSet := ⟨He.glo_ok X G (c.fact 51 (f := .glo "InvalidSet") rfl), He.exc_ok (c.fact 54 (f := .exc "InvalidSet") rfl)⟩
  x_InvalidTune := ⟨He.glo_ok X G (c.fact 52 (f := .glo "InvalidTune") rfl), He.exc_ok (c.fact 55 (f := .exc "InvalidTune") rfl)⟩
  t_InvalidNumber := fun z hz a ha => by
    simp only [List.mem_cons, List.not_mem_nil, or_false] at hz
    rcases hz with rfl
    · have e := ha.symm.trans (He.glo_ok X G (c.fact 50 (f := .glo "InvalidNumber") rfl))
      cases e
      exact He.exm_ok (c.fact 56 (f := .exm "InvalidNumber" "InvalidNumber" true) rfl)
  d__law_cup := by
    obtain ⟨fd, Fd⟩ := c.def_ 0 (d := dd__law_cup) rfl
    exact ⟨fd, Fd, He.glo_ok X G (c.fact 0 (f := .glo "_law_cup") rfl)⟩
  d__law_roll := by
    obtain ⟨fd, Fd⟩ := c.def_ 1 (d := dd__law_roll) rfl
    exact ⟨fd, Fd, He.glo_ok X G (c.fact 1 (f := .glo "_law_roll") rfl)⟩
  d__law_pipes := by
    obtain ⟨fd, Fd⟩ := c.def_ 2 (d := dd__law_pipes) rfl
    exact ⟨fd, Fd, He.glo_ok X G (c.fact 2 (f := .glo "_law_pipes") rfl)⟩
  d__law_tune := by
    obtain ⟨fd, Fd⟩ := c.def_ 3 (d := dd__law_tune) rfl
    exact ⟨fd, Fd, He.glo_ok X G (c.fact 3 (f := .glo "_law_tune") rfl)⟩
  d__law_some := by
    obtain ⟨fd, Fd⟩ := c.def_ 4 (d := dd__law_some) rfl
    exact ⟨fd, Fd, He.glo_ok X G (c.fact 4 (f := .glo "_law_some") rfl)⟩
  d__law_same := by
    obtain ⟨fd, Fd⟩ := c.def_ 5 (d := dd__law_same) rfl
    exact ⟨fd, Fd, He.glo_ok X G (c.fact 5 (f := .glo "_law_same") rfl)⟩
  d_is_tuple_of := by
    obtain ⟨fd, Fd⟩ := c.def_ 6 (d := dd_is_tuple_of) rfl
    exact ⟨fd, Fd, He.glo_ok X G (c.fact 6 (f := .glo "is_tuple_of") rfl)⟩
  d_is_rising := by
    obtain ⟨fd, Fd⟩ := c.def_ 7 (d := dd_is_rising) rfl
    exact ⟨fd, Fd, He.glo_ok X G (c.fact 7 (f := .glo "is_rising") rfl)⟩
  d_is_whole := by
    obtain ⟨fd, Fd⟩ := c.def_ 8 (d := dd_is_whole) rfl
    exact ⟨fd, Fd, He.glo_ok X G (c.fact 8 (f := .glo "is_whole") rfl)⟩
  d_fits_whole := by
    obtain ⟨fd, Fd⟩ := c.def_ 9 (d := dd_fits_whole) rfl
    exact ⟨fd, Fd, He.glo_ok X G (c.fact 9 (f := .glo "fits_whole") rfl)⟩
  d_fits_tone := by
    obtain ⟨fd, Fd⟩ := c.def_ 10 (d := dd_fits_tone) rfl
    exact ⟨fd, Fd, He.glo_ok X G (c.fact 10 (f := .glo "fits_tone") rfl)⟩
  d_fits_pipes := by
    obtain ⟨fd, Fd⟩ := c.def_ 11 (d := dd_fits_pipes) rfl
    exact ⟨fd, Fd, He.glo_ok X G (c.fact 11 (f := .glo "fits_pipes") rfl)⟩
  d_need_pipes := by
    obtain ⟨fd, Fd⟩ := c.def_ 12 (d := dd_need_pipes) rfl
    exact ⟨fd, Fd, He.glo_ok X G (c.fact 12 (f := .glo "need_pipes") rfl)⟩
  d_with_pipes := by
    obtain ⟨fd, Fd⟩ := c.def_ 13 (d := dd_with_pipes) rfl
    exact ⟨fd, Fd, He.glo_ok X G (c.fact 13 (f := .glo "with_pipes") rfl)⟩
  d_fits_tune := by
    obtain ⟨fd, Fd⟩ := c.def_ 14 (d := dd_fits_tune) rfl
    exact ⟨fd, Fd, He.glo_ok X G (c.fact 14 (f := .glo "fits_tune") rfl)⟩
  d_need_tune := by
    obtain ⟨fd, Fd⟩ := c.def_ 15 (d := dd_need_tune) rfl
    exact ⟨fd, Fd, He.glo_ok X G (c.fact 15 (f := .glo "need_tune") rfl)⟩
  d_need_both := by
    obtain ⟨fd, Fd⟩ := c.def_ 16 (d := dd_need_both) rfl
    exact ⟨fd, Fd, He.glo_ok X G (c.fact 16 (f := .glo "need_both") rfl)⟩
  d_can_in := by
    obtain ⟨fd, Fd⟩ := c.def_ 17 (d := dd_can_in) rfl
    exact ⟨fd, Fd, He.glo_ok X G (c.fact 17 (f := .glo "can_in") rfl)⟩
  d_can_play := by
    obtain ⟨fd, Fd⟩ := c.def_ 18 (d := dd_can_play) rfl
    exact ⟨fd, Fd, He.glo_ok X G (c.fact 18 (f := .glo "can_play") rfl)⟩
  d_lacks_in := by
    obtain ⟨fd, Fd⟩ := c.def_ 19 (d := dd_lacks_in) rfl
    exact ⟨fd, Fd, He.glo_ok X G (c.fact 19 (f := .glo "lacks_in") rfl)⟩
  d_lacking := by
    obtain ⟨fd, Fd⟩ := c.def_ 20 (d := dd_lacking) rfl
    exact ⟨fd, Fd, He.glo_ok X G (c.fact 20 (f := .glo "lacking") rfl)⟩
  d_lost_places := by
    obtain ⟨fd, Fd⟩ := c.def_ 21 (d := dd_lost_places) rfl
    exact ⟨fd, Fd, He.glo_ok X G (c.fact 21 (f := .glo "lost_places") rfl)⟩
  d_moved := by
    obtain ⟨fd, Fd⟩ := c.def_ 22 (d := dd_moved) rfl
    exact ⟨fd, Fd, He.glo_ok X G (c.fact 22 (f := .glo "moved") rfl)⟩
  d_shifted_pipes := by
    obtain ⟨fd, Fd⟩ := c.def_ 23 (d := dd_shifted_pipes) rfl
    exact ⟨fd, Fd, He.glo_ok X G (c.fact 23 (f := .glo "shifted_pipes") rfl)⟩
  d_is_pipes := by
    obtain ⟨fd, Fd⟩ := c.def_ 24 (d := dd_is_pipes) rfl
    exact ⟨fd, Fd, He.glo_ok X G (c.fact 24 (f := .glo "is_pipes") rfl)⟩
  d_longest_played := by
    obtain ⟨fd, Fd⟩ := c.def_ 25 (d := dd_longest_played) rfl
    exact ⟨fd, Fd, He.glo_ok X G (c.fact 25 (f := .glo "longest_played") rfl)⟩
  d_turn_counts := by
    obtain ⟨fd, Fd⟩ := c.def_ 26 (d := dd_turn_counts) rfl
    exact ⟨fd, Fd, He.glo_ok X G (c.fact 26 (f := .glo "turn_counts") rfl)⟩
  d_idle_pipes := by
    obtain ⟨fd, Fd⟩ := c.def_ 27 (d := dd_idle_pipes) rfl
    exact ⟨fd, Fd, He.glo_ok X G (c.fact 27 (f := .glo "idle_pipes") rfl)⟩
  d_law := by
    obtain ⟨fd, Fd⟩ := c.def_ 28 (d := dd_law) rfl
    exact ⟨fd, Fd, He.glo_ok X G (c.fact 28 (f := .glo "law") rfl)⟩
theorem facts {P : Program} {w : World} {K : PySem.W.Frag} {h : Heap} {mg : Str → Option Value} {f : Addr} (X : K.In h) (G : h.Ns mainGlobals mg) (hfa : mg ("law" : Str) = some (.ref f)) (c : He.SaysD fa fn K) :
    ∃ fd : FuncData, (∀ (s : Shared) (v : Value), BindsTo s fd ⟨[v], []⟩ [("script", v)]) ∧ ∀ base : Heap, K.In base → base.Ns mainGlobals mg → FnOk P w K mg base (L2.CX P w) 8 f fd ["script"] (spLaw K) := by
  obtain ⟨fd, F⟩ := c.def_ 28 (d := dd_law) rfl
  have e := hfa.symm.trans (He.glo_ok X G (c.fact 28 (f := .glo "law") rfl))
  cases e
  have b := FunD.bindsA (ps := ["script"]) F fun _ _ _ _ _ _ us hl => match us, hl with | [_], _ => rfl
  exact ⟨fd, fun s v => b s [v] rfl, fun base _ _ => h_law (top_ok X G c) F⟩
end K55
open PySem PySem.W PySem.Calls PyProof.Rows
theorem PySem.Challenge.cw_toneyard_k55_whole_tunes_played_holds : PySem.Challenge.rw_toneyard_k55_whole_tunes_played.Holds := by
  w_on; o_law
  refine HandSHeadRun.head_any (r := OpenLaw.row PySem.Challenge.rw_toneyard_k55_whole_tunes_played) (q := view (OpenLaw.row PySem.Challenge.rw_toneyard_k55_whole_tunes_played).prog [40]) (H := K55.hk) (ob := K55.ob) (M := 6000) (loose := K55.nms) (d := HandSHeadRun.topDef (OpenLaw.row PySem.Challenge.rw_toneyard_k55_whole_tunes_played).prog 40) (kwd := []) K55.ob_eq
    (by kernel_rfl) (fun s => by kernel_rfl) K55.run (by kernel_rfl) (by kernel_rfl) (by kernel_rfl) (by rfl) (by first | assumption | decide +kernel) (by decide +kernel) ⟨rfl, rfl, rfl, rfl, rfl, by decide +kernel⟩ ?hw ?hc
  case hw => w_witness2
  case hc =>
    refine DL.walk_w (l := PySem.Challenge.rw_toneyard_k55_whole_tunes_played) (n := 63) (k := 8) (x := "script") (CX := L2.CX (PySem.Challenge.rw_toneyard_k55_whole_tunes_played).prog) rfl (by decide) (by kernel_rfl) ⟨rfl, by decide, by decide⟩ ?F DL.cx_false
    case F =>
      intro w mg fa h Y G hmg0
      obtain ⟨K, KX, c⟩ := Y
      have hmg : mg ("law" : PySem.Str) = some (.ref fa) := by
        have e : (HandSHeadRun.topDef (OpenLaw.row PySem.Challenge.rw_toneyard_k55_whole_tunes_played).prog 40).name = ("law" : PySem.Str) := by kernel_rfl
        rw [← e]
        exact hmg0
      obtain ⟨fd, hb, hF⟩ := K55.facts (P := (PySem.Challenge.rw_toneyard_k55_whole_tunes_played).prog) (w := w) KX G hmg c
      exact ⟨K, fd, DL.spLaw K, KX, hb, fun H a ns hl _ hS => ⟨a, ns, rfl, hl, hS, fun _ => rfl⟩, hF⟩
