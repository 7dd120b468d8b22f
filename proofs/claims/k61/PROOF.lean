import PyProof.Rows.All
import Wide.All
import OpenK.AllK
import Wide.FinOn
import HandS.ForMost
import HandS.Walk
import HandS.Zip
import HandS.TupMul
import HandS.Style
import KE.GoesEnum
import HandS.Codes
import PySem.Challenge.RW_webtones_k61_whole_kept_in_any_order
set_option Elab.async false
set_option maxRecDepth 100000
set_option maxHeartbeats 4000000
/-! ### zip of two things, each a list (true) or a tuple (false); an item of a list read for an augmented store -/
namespace My
open PySem PySem.Spec PyProof.Rows L2

/-- at a stands a list (true) or a tuple (false) of xs -/
def SqK : Bool → PySem.W.Frag → Hp → Addr → List V → Prop
  | true, K, H, a, xs => SqL K H a xs
  | false, K, H, a, xs => SqT K H a xs
def ItK : Bool → Heap → Addr → Addr → Nat → Prop
  | true, h, it, l, i => h.IsListIter it l i
  | false, h, it, l, i => h.IsTupleIter it l i
def SeK : Bool → Heap → Addr → Array Value → Prop
  | true, h, l, xs => h.IsList l xs
  | false, h, l, xs => h.IsTuple l xs
theorem SqK.raw {X : Cx} {pins : List (Addr × Obj)} {σ : L2.St} {H : Hp} {s : Shared} {a : Addr} {xs : List V} :
    ∀ {k : Bool}, SqK k X.K H a xs → Inv X pins σ H s → ∃ its : List Value, Vals xs its ∧ SeK k s.heap a its.toArray
  | true, h, I => by
    obtain ⟨its, r, p, q⟩ := I.list h
    exact ⟨its, r, p.isList⟩
  | false, h, I => by
    obtain ⟨its, r, p, q⟩ := I.tuple h
    exact ⟨its, r, p⟩
theorem SqK.inj {X : Cx} {pins : List (Addr × Obj)} {σ : L2.St} {H : Hp} {s : Shared} {a : Addr} {xs ys : List V} (I : Inv X pins σ H s) :
    ∀ {k : Bool}, SqK k X.K H a xs → SqK k X.K H a ys → xs = ys
  | true, h, h' => I.list_inj h h'
  | false, h, h' => I.tuple_inj h h'
theorem drawsK {prog : Program} {w : World} {A : Around} (hh : A.handled = none) (it l : Addr) (ne : l ≠ it) (its : Array Value) :
    ∀ k : Bool, Draws prog w A it [it, l] its.size (fun i v => its[i]? = some v) (fun i h => ItK k h it l i ∧ SeK k h l its)
  | true => Draws.list hh it l ne its
  | false => Draws.tuple hh it l ne its
theorem ItK.keep : ∀ {k : Bool} {h h' : Heap} {it l : Addr} {i : Nat}, ItK k h it l i → (∀ o, h.get? it = some o → h'.get? it = some o) → ItK k h' it l i
  | true, _, _, _, _, _, x, q => Heap.IsListIter.at x q
  | false, _, _, _, _, _, x, q => Heap.IsTupleIter.at x q
theorem ItK.obj : ∀ {k : Bool} {h : Heap} {it l : Addr} {i : Nat}, ItK k h it l i → ∃ o, h.get? it = some o ∧ ∀ v, o.data ≠ .cell v
  | true, _, _, _, _, ⟨o, e, _, d⟩ => ⟨o, e, fun v q => by rw [d] at q; cases q⟩
  | false, _, _, _, _, ⟨o, e, _, d⟩ => ⟨o, e, fun v q => by rw [d] at q; cases q⟩
/-- two things walked side by side -/
def ItzK (ka kb : Bool) (K : PySem.W.Frag) (a b : Addr) : It where
  go := fun i H => ∃ (xs ys : List V) (x y : V), SqK ka K H a xs ∧ SqK kb K H b ys ∧ xs[i]? = some x ∧ ys[i]? = some y
  yld := fun i H v H' => ∃ T x y, v = .ref T ∧ H T = none ∧ H' = upd H T (.tup [x, y]) ∧ (∀ xs, SqK ka K H a xs → xs[i]? = some x) ∧ (∀ ys, SqK kb K H b ys → ys[i]? = some y)
  stop := fun i H => ∃ xs ys : List V, SqK ka K H a xs ∧ SqK kb K H b ys ∧ i ≤ xs.length ∧ i ≤ ys.length ∧ (i = xs.length ∨ i = ys.length)
theorem walk_zipK {K : PySem.W.Frag} {ka kb : Bool} {a b : Addr} {xs ys : List V} {n : Nat} (hn : n = min xs.length ys.length) :
    Walk (ItzK ka kb K a b) n (fun H => SqK ka K H a xs ∧ SqK kb K H b ys) (YPair (fun i => xs[i]?) (fun i => ys[i]?)) where
  goes := fun i H hi q => ⟨xs, ys, xs[i]'(by omega), ys[i]'(by omega), q.1, q.2, by simp [show i < xs.length by omega], by simp [show i < ys.length by omega]⟩
  stops := fun H q => ⟨xs, ys, q.1, q.2, by omega, by omega, by omega⟩
  yields := fun i H v H' hi q y => by
    obtain ⟨T, x, z, h1, h2, h3, h4, h5⟩ := y
    exact ⟨T, x, z, h1, h2, h3, h4 _ q.1, h5 _ q.2⟩
theorem five {c z TI TO i1 i2 : Addr} (h : c ∈ [z, TI, TO, i1, i2]) : c = z ∨ c = TI ∨ c = TO ∨ c = i1 ∨ c = i2 := by simpa using h
theorem turn_zipK {P : Program} {w : World} {K : PySem.W.Frag} {elts : List Expr} {kk : Nat} {tpos : Pos} {ka kb : Bool} {a b z TI TO i1 i2 : Addr} (S : ZipSep2 z TI TO i1 i2 [i1, a] [i2, b]) (na : a ≠ i1) (nb : b ≠ i2) :
    Turn P w K (.Tuple elts kk tpos) (ItzK ka kb K a b) [z, TI, TO, i1, i2] z
      (fun i h => IsZip h z TI TO .none ∧ IsTupOf2 h TI (.ref i1) (.ref i2) ∧ (∃ x y, IsTupOf2 h TO x y) ∧ ItK ka h i1 a i ∧ ItK kb h i2 b i) where
  mem := List.mem_cons_self
  obj := by
    rintro i h ⟨hz, hTI, ⟨x, y, hTO⟩, h1, h2⟩ c hc
    rcases five hc with rfl | rfl | rfl | rfl | rfl
    · exact ⟨_, hz, fun v q => nomatch q⟩
    · exact ⟨_, hTI, fun v q => nomatch q⟩
    · exact ⟨_, hTO, fun v q => nomatch q⟩
    · exact h1.obj
    · exact h2.obj
  keep := by
    rintro i h h' ⟨hz, hTI, ⟨x, y, hTO⟩, h1, h2⟩ k
    exact ⟨k _ (by simp) _ hz, k _ (by simp) _ hTI, ⟨x, y, k _ (by simp) _ hTO⟩, h1.keep (k _ (by simp)), h2.keep (k _ (by simp))⟩
  item := by
    rintro X rfl rfl rfl hc i pins s σ H E I hf ⟨hz, hTI, ⟨x0, y0, hTO⟩, h1, h2⟩ ⟨xs, ys, x, y, qx, qy, hx, hy⟩
    obtain ⟨us, rx, sx⟩ := qx.raw I
    obtain ⟨ws, ry, sy⟩ := qy.raw I
    obtain ⟨u, hu, ru⟩ := rx.get hx
    obtain ⟨v, hv, rv⟩ := ry.get hy
    have lu := (List.getElem?_eq_some_iff.mp hu).1
    have lv := (List.getElem?_eq_some_iff.mp hv).1
    have zlt : z < s.heap.objs.size := Heap.lt_size hz
    refine wpAny_pyNext_zipD2_item S (drawsK (A := X.A.in1) (I.ok.hd hc) i1 a na us.toArray ka) (drawsK (A := X.A.in1) (I.ok.hd hc) i2 b nb ws.toArray kb) hz hTI hTO ⟨h1, sx⟩ ⟨h2, sy⟩ (by simpa using lu) (by simpa using lv)
      fun x1 x2 h' tk e1 e2 z' TO' st1 st2 hT hsz hk => ?_
    obtain rfl : x1 = u := by
      rw [List.getElem?_toArray, hu] at e1
      exact (Option.some.inj e1).symm
    obtain rfl : x2 = v := by
      rw [List.getElem?_toArray, hv] at e2
      exact (Option.some.inj e2).symm
    refine ⟨_, rfl, wpAny_letOwnedTupleGo_zip (s := { s with heap := h', toks := tk }) z' fun h2' z2 sb => ?_⟩
    have hT2 : h2'.get? s.heap.objs.size = some { cls := .type "tuple", data := .seq #[x1, x2] } := Eq.trans (sb.2 _ (Nat.ne_of_gt zlt)) hT
    have I1 : Inv X pins σ (upd H s.heap.objs.size (.tup [x, y])) { s with heap := h2', toks := tk } := by
      refine I.turnedNew (t' := tk) (ch := [z, TI, TO, i1, i2]) (fun c o hb q => ?_) hf (Nat.le_refl _) ⟨by show 2 ≤ sizeLine; decide, [x1, x2], .cons ru (.cons rv .nil), ⟨_, hT2, rfl, _, rfl⟩⟩
      simp only [List.mem_cons, not_or] at hb
      exact Eq.trans (sb.2 c hb.1) (hk c o hb.1 hb.2.2.1 hb.2.2.2.1 hb.2.2.2.2.1 q)
    have keep2 : ∀ {c : Addr} {o : Obj}, c ≠ z → h'.get? c = some o → h2'.get? c = some o := fun n q => Eq.trans (sb.2 _ n) q
    refine ⟨.ref s.heap.objs.size, _, I1, rfl, ⟨_, x, y, rfl, I.hok.fresh (Nat.le_refl _), rfl, fun l hl => ?_, fun l hl => ?_⟩, ⟨z2, keep2 S.TIz (hk _ _ S.TIz S.TITO S.TIi1 S.TIi2 hTI), ⟨_, _, keep2 S.TOz TO'⟩, st1.1.keep fun o q => keep2 S.zi1.symm q, st2.1.keep fun o q => keep2 S.zi2.symm q⟩, fun c hcm => ?_⟩
    · rw [hl.inj I qx]; exact hx
    · rw [hl.inj I qy]; exact hy
    · have old : c < s.heap.objs.size := by
        rcases five hcm with rfl | rfl | rfl | rfl | rfl
        · exact zlt
        · exact Heap.lt_size hTI
        · exact Heap.lt_size hTO
        · obtain ⟨o, e, _⟩ := h1.obj; exact Heap.lt_size e
        · obtain ⟨o, e, _⟩ := h2.obj; exact Heap.lt_size e
      rw [upd_ne (Nat.ne_of_lt old)]
      exact (hf c hcm).1
  done := by
    rintro X rfl rfl rfl hc i pins s σ H E I hf ⟨hz, hTI, ⟨x0, y0, hTO⟩, h1, h2⟩ ⟨xs, ys, qx, qy, l1, l2, hend⟩
    obtain ⟨us, rx, sx⟩ := qx.raw I
    obtain ⟨ws, ry, sy⟩ := qy.raw I
    have e1 := rx.length
    have e2 := ry.length
    refine wpAny_pyNext_zipD2_end S (drawsK (A := X.A.in1) (I.ok.hd hc) i1 a na us.toArray ka) (drawsK (A := X.A.in1) (I.ok.hd hc) i2 b nb ws.toArray kb) hz hTI hTO ⟨h1, sx⟩ ⟨h2, sy⟩
      (by rw [List.size_toArray]; omega) (by rw [List.size_toArray]; omega) (by rw [List.size_toArray, List.size_toArray]; omega) fun h' tk hk => ⟨rfl, I.turnedL (t' := tk) (ch := [z, TI, TO, i1, i2]) (fun c o hb q => ?_) hf⟩
    simp only [List.mem_cons, not_or] at hb
    exact hk c o hb.1 hb.2.2.1 hb.2.2.2.1 hb.2.2.2.2.1 q
  self := fun _ _ _ _ _ st q => wpAny_pyIter_zip st.1 q
def iZipK (ka kb : Bool) (K : PySem.W.Frag) (ta : TA) : TI := fun σ H R => ta σ H fun vs H1 => ∃ a b xs ys, vs = [.ref a, .ref b] ∧ SqK ka K H1 a xs ∧ SqK kb K H1 b ys ∧ R (ItzK ka kb K a b) H1
theorem begK : ∀ (k : Bool) (l : Addr) (its : Array Value), ∃ o, Begins (.ref l) o (fun h => SeK k h l its) ∧ ∀ (h : Heap) (it : Addr), h.get? it = some o → ItK k h it l 0
  | true, l, its => ⟨_, begins_list l its, fun h it e => ⟨_, e, rfl, rfl⟩⟩
  | false, l, its => ⟨_, begins_tuple l its, fun h it e => ⟨_, e, rfl, rfl⟩⟩
theorem SeK.lt : ∀ {k : Bool} {h : Heap} {l : Addr} {its : Array Value}, SeK k h l its → l < h.objs.size
  | true, _, _, _, ⟨_, e, _⟩ => Heap.lt_size e
  | false, _, _, _, ⟨_, e, _⟩ => Heap.lt_size e
theorem pi_zipK (ka kb : Bool) {X : Cx} {e e2 : Expr} {ta : TA} {p pos tpos : Pos} {elts : List Expr} {kk : Nat} (hg : Gl X "zip") (hm : X.mg "zip" = none) (ha : PA X [e, e2] ta)
    (hs : starEach [e, e2] X.env = (false, eval e X.env) :: starEach [e2] X.env := by rfl)
    (hpl : (backTo pos (starEach [e2] X.env)).any (·.1) = false := by rfl) : PI X (.Tuple elts kk tpos) (.Call (.Name "zip" p) [e, e2] [] pos) (iZipK ka kb X.K ta) := by
  refine ⟨fun pins s σ H R I hR => ?_⟩
  refine Call_ (ld_blt I hg hm boot_zip (callWith_type1 (thn (ha.run pos pins s σ H _ I hR) fun us s1 hq => ?_) hs hpl))
  obtain ⟨vs, H1, I1, r1, a, b, xs, ys, rfl, qx, qy, q⟩ := hq
  obtain ⟨v1, v2, rfl, rr1, rr2⟩ := vals2 r1
  cases rr1
  cases rr2
  obtain ⟨us, rx, sx⟩ := qx.raw I1
  obtain ⟨ws, ry, sy⟩ := qy.raw I1
  obtain ⟨o1, B1, b1⟩ := begK ka a us.toArray
  obtain ⟨o2, B2, b2⟩ := begK kb b ws.toArray
  have la := sx.lt
  have lb := sy.lt
  refine zip_begins2 B1 B2 sx sy fun h' hz hTI hTO g1 g2 hsz hk => wpAny_pyIter_zip hz ?_
  have Ib : Inv X pins σ H1 { s1 with heap := h' } := I1.kept (t' := s1.toks) hk
  refine ⟨s1.heap.objs.size + 4, [s1.heap.objs.size + 4, s1.heap.objs.size + 2, s1.heap.objs.size + 3, s1.heap.objs.size, s1.heap.objs.size + 1], _, ItzK ka kb X.K a b, H1, rfl, Ib,
    turn_zipK (zip_sep2 (N := s1.heap.objs.size) (fp1 := [a]) (fp2 := [b]) (by simpa using la) (by simpa using lb)) (Nat.ne_of_lt la) (Nat.ne_of_lt (Nat.lt_succ_of_lt lb)), ⟨hz, hTI, ⟨_, _, hTO⟩, b1 _ _ g1, b2 _ _ g2⟩, fun c hcm => ?_, q⟩
  have young : s1.heap.objs.size ≤ c := by
    rcases five hcm with z | z | z | z | z <;> rw [z]
    · exact Nat.le_add_right _ _
    · exact Nat.le_add_right _ _
    · exact Nat.le_add_right _ _
    · exact Nat.le_refl _
    · exact Nat.le_add_right _ _
  exact I1.fpOk young (I1.hok.fresh young)
/-- l[i], 0 ≤ i, by values -/
def rGetL : V → V → Hp → VK → Prop := fun x y H Q => ∃ p xs j v, x = .ref p ∧ y = .int ((j : Nat) : Int) ∧ H p = some (.lst xs) ∧ xs[j]? = some v ∧ Q v H
theorem get_list {X : Cx} : PGet X rGetL := by
  intro pins s σ H x y ov iv Q I rx ry h
  obtain ⟨p, xs, j, v, rfl, rfl, hp, hv, q⟩ := h
  cases rx
  obtain ⟨t, rfl⟩ := ry
  obtain ⟨its, r, pl, hz⟩ := I.list (.inl (.inl hp))
  obtain ⟨u, hu, ru⟩ := r.get hv
  have hn := line63
  have hj := (List.getElem?_eq_some_iff.mp hv).1
  exact wpAny_getItem_list pl.isList (Int.natCast_nonneg j) (by omega) (by simpa using hu) ⟨v, H, I, ru, q⟩
end My

/-! ### rows, tables, what a comprehension makes -/
namespace My
open PySem PySem.Spec PyProof.Rows L2

/-- the ints g 0, .., g (n - 1) -/
def rowV (n : Nat) (g : Nat → Int) : List V := (List.range n).map fun j => V.int (g j)
theorem rowV_len (n : Nat) (g : Nat → Int) : (rowV n g).length = n := by simp [rowV]
theorem rowV_at {n j : Nat} {g : Nat → Int} (h : j < n) : (rowV n g)[j]? = some (.int (g j)) := by simp [rowV, h]
theorem rowV_get (n j : Nat) (g : Nat → Int) : (rowV n g)[j]? = if j < n then some (.int (g j)) else none := by
  by_cases h : j < n
  · rw [if_pos h, rowV_at h]
  · rw [if_neg h]; simp [rowV]; omega
theorem rowV_inv {n j : Nat} {g : Nat → Int} {v : V} (h : (rowV n g)[j]? = some v) : j < n ∧ v = .int (g j) := by
  rw [rowV_get] at h
  by_cases e : j < n
  · rw [if_pos e] at h; exact ⟨e, (Option.some.inj h).symm⟩
  · rw [if_neg e] at h; cases h
theorem rowV_ints (n : Nat) (g : Nat → Int) : rowV n g = ((List.range n).map g).map V.int := by simp [rowV]
theorem rowV_congr {n : Nat} {g h : Nat → Int} (e : ∀ j, j < n → g j = h j) : rowV n g = rowV n h := by
  apply List.ext_getElem?
  intro i
  rw [rowV_get, rowV_get]
  by_cases hi : i < n
  · rw [if_pos hi, if_pos hi, e i hi]
  · rw [if_neg hi, if_neg hi]
theorem rowV_set (n j : Nat) (g : Nat → Int) (w : Int) : (rowV n g).set j (.int w) = rowV n (fun k => if k = j then w else g k) := by
  apply List.ext_getElem?
  intro i
  rw [List.getElem?_set, rowV_get, rowV_get, rowV_len]
  by_cases hi : i < n <;> by_cases hj : j = i
  · subst hj; simp [hi]
  · simp [hi, hj, Ne.symm hj]
  · subst hj; simp [hi]
  · simp [hi, hj]
theorem rowV_snoc (n : Nat) (g : Nat → Int) (w : Int) : rowV n g ++ [.int w] = rowV (n + 1) (fun k => if k < n then g k else w) := by
  unfold rowV
  rw [List.range_succ, List.map_append, List.map_cons, List.map_nil]
  congr 1
  · apply List.map_congr_left
    intro a ha
    show V.int (g a) = V.int (if a < n then g a else w)
    rw [if_pos (List.mem_range.mp ha)]
  · simp
theorem rowV_zeros (n : Nat) : (List.replicate n [V.int 0]).flatten = rowV n (fun _ => 0) := by
  apply List.ext_getElem?
  intro i
  rw [rowV_get]
  have e : (List.replicate n [V.int 0]).flatten = List.replicate n (V.int 0) := by
    induction n with
    | zero => rfl
    | succ k ih => rw [List.replicate_succ, List.replicate_succ, List.flatten_cons, ih]; rfl
  rw [e, List.getElem?_replicate]
/-- the place k of what is left when the place at is out -/
def skip (at_ k : Nat) : Nat := if k < at_ then k else k + 1
theorem rowV_erase {n at_ : Nat} (g : Nat → Int) (h : at_ ≤ n) : (rowV (n + 1) g).eraseIdx at_ = rowV n (fun k => g (skip at_ k)) := by
  apply List.ext_getElem?
  intro i
  rw [List.getElem?_eraseIdx, rowV_get, rowV_get, rowV_get]
  unfold skip
  by_cases hi : i < at_
  · rw [if_pos hi, if_pos (show i < n + 1 by omega), if_pos (show i < n by omega), if_pos hi]
  · rw [if_neg hi, if_neg hi]
    by_cases h2 : i < n
    · rw [if_pos h2, if_pos (show i + 1 < n + 1 by omega)]
    · rw [if_neg h2, if_neg (show ¬ i + 1 < n + 1 by omega)]

/-! heaps -/
theorem Same.sqT {K : PySem.W.Frag} {H H' : Hp} {a : Addr} {xs : List V} (e : Same H H') (h : SqT K H a xs) : SqT K H' a xs := by
  rcases h with (h | ⟨o, h⟩) | h
  · exact .inl (.inl (e _ _ h))
  · exact .inl (.inr ⟨o, e _ _ h⟩)
  · exact .inr h
theorem Same.new {H : Hp} {a : Addr} {o : HO} (h : H a = none) : Same H (upd H a o) := fun b u e => by
  rw [upd_ne (ne_of_none e h)]; exact e
theorem Same.newT {H H' : Hp} {a : Addr} {o : HO} (s : Same H H') (h : H a = none) : Same H (upd H' a o) := fun b u e => by
  rw [upd_ne (ne_of_none e h)]; exact s b u e
theorem Same.out {H H' : Hp} {a : Addr} {o : HO} (s : Same H H') (h : H' a = none) : Same H (upd H' a o) := Same.newT s (s.free h)
theorem Same.sqK {K : PySem.W.Frag} {H H' : Hp} {a : Addr} {xs : List V} (e : Same H H') : ∀ {k : Bool}, SqK k K H a xs → SqK k K H' a xs
  | true, h => e.seq h
  | false, h => Same.sqT e h
/-- at a stands a square of n rows of n ints; all lists (true) or all tuples (false) -/
structure TabAt (k : Bool) (K : PySem.W.Frag) (H : Hp) (a : Addr) (n : Nat) (f : Nat → Nat → Int) : Prop where
  ex : ∃ as : List Addr, SqK k K H a (as.map V.ref) ∧ as.length = n ∧ ∀ (i : Nat) (b : Addr), as[i]? = some b → SqK k K H b (rowV n (f i))
theorem Same.tab {k : Bool} {K : PySem.W.Frag} {H H' : Hp} {a : Addr} {n : Nat} {f : Nat → Nat → Int} (e : Same H H') (h : TabAt k K H a n f) : TabAt k K H' a n f := by
  obtain ⟨as, h1, h2, h3⟩ := h.ex
  exact ⟨as, Same.sqK e h1, h2, fun i b hb => Same.sqK e (h3 i b hb)⟩
theorem TabAt.congr {k : Bool} {K : PySem.W.Frag} {H : Hp} {a : Addr} {n : Nat} {f g : Nat → Nat → Int} (h : TabAt k K H a n f) (e : ∀ i j, i < n → j < n → f i j = g i j) : TabAt k K H a n g := by
  obtain ⟨as, h1, h2, h3⟩ := h.ex
  refine ⟨as, h1, h2, fun i b hb => ?_⟩
  have hi : i < n := h2 ▸ (List.getElem?_eq_some_iff.mp hb).1
  rw [← rowV_congr fun j hj => e i j hi hj]
  exact h3 i b hb
/-- the row's place -/
theorem ref_at {as : List Addr} {i : Nat} {v : V} (h : (as.map V.ref)[i]? = some v) : ∃ b, v = .ref b ∧ as[i]? = some b := by
  rw [List.getElem?_map] at h
  cases e : as[i]? with
  | none => rw [e] at h; cases h
  | some b => rw [e] at h; exact ⟨b, (Option.some.inj h).symm, rfl⟩
theorem ref_to {as : List Addr} {i : Nat} {b : Addr} (h : as[i]? = some b) : (as.map V.ref)[i]? = some (.ref b) := by
  rw [List.getElem?_map, h]; rfl

/-! what is walked, what is indexed: a list or a tuple -/
def iK (k : Bool) (K : PySem.W.Frag) (tl : TE) : TI := match k with
  | true => iList K tl
  | false => iTup K tl
def ItS (k : Bool) (K : PySem.W.Frag) (a : Addr) : It := match k with
  | true => Itl K a
  | false => Itt K a
theorem pi_K {X : Cx} {K : PySem.W.Frag} {tg l : Expr} {tl : TE} (k : Bool) (h : PE X l tl) (hK : X.K = K := by rfl) : PI X tg l (iK k K tl) := by
  subst hK
  cases k with
  | true => exact pi_list h
  | false => exact pi_tup h
theorem iK_of {K : PySem.W.Frag} {tl : TE} {σ : L2.St} {H : Hp} {R : It → Hp → Prop} : ∀ {k : Bool}, (tl σ H fun x H1 => ∃ a, x = .ref a ∧ (∃ xs, SqK k K H1 a xs) ∧ R (ItS k K a) H1) → iK k K tl σ H R
  | true, h => h
  | false, h => h
theorem walk_K {K : PySem.W.Frag} {a : Addr} {xs : List V} : ∀ {k : Bool}, Walk (ItS k K a) xs.length (fun H => SqK k K H a xs) (YAt xs)
  | true => walk_list
  | false => walk_tup
def rIxK (K : PySem.W.Frag) (k : Bool) : R2 := fun x y H Q => ∃ p xs j v, x = .ref p ∧ y = .int ((j : Nat) : Int) ∧ SqK k K H p xs ∧ xs[j]? = some v ∧ Q v H
theorem ix_K {X : Cx} {K : PySem.W.Frag} (k : Bool) (hK : X.K = K := by rfl) : IxR X (rIxK K k) := by
  subst hK
  rintro value slice pins s σ H x y v u Q I rx ry ⟨p, xs, j, z, e1, e2, h1, h2, q⟩ hs
  cases k with
  | true => exact ix_list value slice pins s σ H x y v u Q I rx ry ⟨p, xs, _, z, e1, e2, h1, atI_nat h2, q⟩ hs
  | false => exact ix_tup value slice pins s σ H x y v u Q I rx ry ⟨p, xs, _, z, e1, e2, h1, atI_nat h2, q⟩ hs
/-- len of a list or a tuple -/
def rLen (K : PySem.W.Frag) : List V → Hp → VK → Prop := fun vs H Q => ∃ (p : Addr) (ys : List V), vs = [V.ref p] ∧ (SqL K H p ys ∨ SqT K H p ys) ∧ Q (.int (ys.length : Nat)) H
theorem c_len {X : Cx} {K : PySem.W.Frag} (hK : X.K = K := by rfl) : CallR X (.builtin "len") (rLen K) := by
  subst hK
  rintro pins s σ H xs us Q I r ⟨p, ys, e, h, q⟩
  exact call_len_seq pins s σ H xs us Q I r ⟨p, ys, e, h, q⟩
theorem c_sum {X : Cx} {K : PySem.W.Frag} (hc : X.calm = true := by rfl) (hK : X.K = K := by rfl) : CallR X (.builtin "sum") (rSum K) := by
  subst hK
  exact cr_sum hc
/-- tuple(list), tuple(tuple) -/
def rTup (K : PySem.W.Frag) : List V → Hp → VK → Prop := fun vs H Q => ∃ (p : Addr) (ys : List V), vs = [V.ref p] ∧ SqL K H p ys ∧ ∀ l, H l = none → Q (.ref l) (upd H l (.tup ys))
theorem c_tup {X : Cx} {K : PySem.W.Frag} (hK : X.K = K := by rfl) : CallR X (.type "tuple") (rTup K) := by
  subst hK
  rintro pins s σ H xs us Q I r ⟨p, ys, e, h, q⟩
  exact call_tuple_of pins s σ H xs us Q I r ⟨p, ys, e, .inl ⟨h, q⟩⟩
/-- list(list), list(tuple) -/
def rLst (K : PySem.W.Frag) : List V → Hp → VK → Prop := fun vs H Q => ∃ (p : Addr) (ys : List V), vs = [V.ref p] ∧ (SqL K H p ys ∨ SqT K H p ys) ∧ ∀ l, H l = none → Q (.ref l) (upd H l (.lst ys))
theorem c_lst {X : Cx} {K : PySem.W.Frag} (hK : X.K = K := by rfl) : CallR X (.type "list") (rLst K) := by
  subst hK
  rintro pins s σ H xs us Q I r ⟨p, ys, e, h, q⟩
  exact call_list_of pins s σ H xs us Q I r ⟨p, ys, e, h, q⟩
theorem p_zip {X : Cx} {K : PySem.W.Frag} (ka kb : Bool) {e e2 : Expr} {ta : TA} {p pos tpos : Pos} {elts : List Expr} {kk : Nat} (hg : Gl X "zip") (hm : X.mg "zip" = none) (ha : PA X [e, e2] ta) (hK : X.K = K := by rfl)
    (hs : starEach [e, e2] X.env = (false, eval e X.env) :: starEach [e2] X.env := by rfl)
    (hpl : (backTo pos (starEach [e2] X.env)).any (·.1) = false := by rfl) : PI X (.Tuple elts kk tpos) (.Call (.Name "zip" p) [e, e2] [] pos) (iZipK ka kb K ta) := by
  subst hK
  exact pi_zipK ka kb hg hm ha hs hpl
theorem g_tup {X : Cx} {K : PySem.W.Frag} {es : List Expr} {k : Nat} {t : TGs} {n : Nat} {pos : Pos} (hc : X.calm = true) (h : PGs X es t) (hK : X.K = K := by rfl)
    (hn : (assignEach es X.env).length = n := by rfl) (hst : (assignEach es X.env).findIdx? (·.1) = none := by rfl) : PG X (.Tuple es k pos) (gTup K n t) := by
  subst hK
  exact pg_tup hc h hn hst
theorem SqK.len {K : PySem.W.Frag} {H : Hp} {p : Addr} {ys : List V} : ∀ {k : Bool}, SqK k K H p ys → SqL K H p ys ∨ SqT K H p ys
  | true, h => .inl h
  | false, h => .inr h

/-! new objects in a new list -/
/-- at D a new list of the new objects at as, m of them, the i-th of them o i -/
structure Objs (H0 H : Hp) (D : Addr) (as : List Addr) (m : Nat) (o : Nat → HO) : Prop where
  same : Same H0 H
  dn : H0 D = none
  dl : H D = some (.lst (as.map V.ref))
  len : as.length = m
  nd : (D :: as).Nodup
  nw : ∀ a ∈ as, H0 a = none
  elt : ∀ (i : Nat) (a : Addr), as[i]? = some a → H a = some (o i)
theorem Objs.start {H0 : Hp} {D : Addr} {o : Nat → HO} (h : H0 D = none) : Objs H0 (upd H0 D (.lst [])) D [] 0 o where
  same := Same.new h
  dn := h
  dl := upd_same
  len := rfl
  nd := by simp
  nw := by simp
  elt := by simp
theorem Objs.there {H0 H : Hp} {D : Addr} {as : List Addr} {m : Nat} {o : Nat → HO} (x : Objs H0 H D as m o) {a : Addr} (h : a ∈ as) : ∃ u, H a = some u := by
  obtain ⟨i, e⟩ := List.mem_iff_getElem?.mp h
  exact ⟨_, x.elt i a e⟩
theorem Objs.carry {H0 H H' : Hp} {D : Addr} {as : List Addr} {m : Nat} {o : Nat → HO} (x : Objs H0 H D as m o) (s : Same H H') : Objs H0 H' D as m o :=
  ⟨x.same.trans s, x.dn, s _ _ x.dl, x.len, x.nd, x.nw, fun i a e => s _ _ (x.elt i a e)⟩
theorem Objs.push {H0 H H' : Hp} {D a : Addr} {as : List Addr} {m : Nat} {o : Nat → HO} (x : Objs H0 H D as m o) (s : Same H H') (h : H a = none) (e : H' a = some (o m)) :
    Objs H0 (upd H' D (.lst (as.map V.ref ++ [V.ref a]))) D (as ++ [a]) (m + 1) o := by
  have haD : a ≠ D := (ne_of_none x.dl h).symm
  have hna : ∀ b ∈ as, b ≠ a := fun b hb => by
    obtain ⟨u, hu⟩ := x.there hb
    exact ne_of_none hu h
  have hD : ∀ b ∈ as, b ≠ D := fun b hb z => (List.nodup_cons.mp x.nd).1 (z ▸ hb)
  refine ⟨fun b u q => ?_, x.dn, by rw [upd_same, List.map_append]; rfl, by rw [List.length_append, x.len]; rfl, ?_, fun b hb => ?_, fun i b hb => ?_⟩
  · rw [upd_ne (ne_of_none q x.dn)]
    exact s _ _ (x.same _ _ q)
  · rw [← List.cons_append, List.nodup_append]
    refine ⟨x.nd, by simp, fun b hb c hc => ?_⟩
    rw [List.mem_singleton.mp hc]
    rcases List.mem_cons.mp hb with z | z
    · rw [z]; exact haD.symm
    · exact hna b z
  · rcases List.mem_append.mp hb with z | z
    · exact x.nw b z
    · rw [List.mem_singleton.mp z]; exact x.same.free h
  · by_cases hi : i < as.length
    · rw [List.getElem?_append_left hi] at hb
      rw [upd_ne (hD b (List.mem_of_getElem? hb))]
      exact s _ _ (x.elt i b hb)
    · rw [List.getElem?_append_right (by omega)] at hb
      have h0 : i - as.length = 0 := by
        have := (List.getElem?_eq_some_iff.mp hb).1
        simpa using this
      rw [h0] at hb
      have hb' : a = b := by simpa using hb
      have hm : i = m := by have := x.len; omega
      rw [← hb', hm, upd_ne haD]
      exact e
/-- what is to be shown of a comprehension without a test whose list is at D: an invariant by the turn and a measure, told once -/
abbrev Turns (J : It) (g : TG) (te : TE) (vs : List Nat) (σ : L2.St) (H0 : Hp) (D : Addr) (Z : Hp → Prop) : Prop :=
  ∃ I : Nat → Nat → Hp → Prop, (∃ m, I 0 m (upd H0 D (.lst []))) ∧
    ∀ k m A, I k m A → (J.stop k A ∧ Z A) ∨ (J.go k A ∧ ∃ R : Hp → Prop, (∀ A', R A' → ∃ j, j < m ∧ I (k + 1) j A') ∧
      ∀ u A', J.yld k A u A' → g u (wipe σ vs) A' fun ρ A2 => wipe ρ vs = wipe σ vs ∧ tYes ρ A2 fun c A3 =>
        if c = true then te ρ A3 fun y A4 => ∃ l, A4 D = some (.lst l) ∧ l.length < sizeLine ∧ R (upd A4 D (.lst (l ++ [y]))) else R A3)
theorem ifT (A B : Prop) : (if true = true then A else B) = A := if_pos rfl
theorem Objs.tab {H0 H : Hp} {D : Addr} {as : List Addr} {n : Nat} {f : Nat → Nat → Int} {K : PySem.W.Frag} (x : Objs H0 H D as n fun i => .lst (rowV n (f i))) : TabAt true K H D n f :=
  ⟨as, SqL.of x.dl, x.len, fun i b hb => SqL.of (x.elt i b hb)⟩
/-- the comprehension's list, each item a new object -/
theorem lc_obj {J : It} {n : Nat} {G : Hp → Prop} {Y : Nat → Hp → V → Hp → Prop} (w : Walk J n G Y) {g : TG} {te : TE} {vs : List Nat} {σ : L2.St} {H1 : Hp} {Qd : Addr → Hp → Prop} (o : Nat → HO) (hn : n ≤ 1000)
    (hG : ∀ H, Same H1 H → G H)
    (hs : ∀ i x H H', i < n → Same H1 H → Y i H x H' → ∀ R : V → Hp → Prop, (∀ a H4, Same H H4 → H a = none → H4 a = some (o i) → R (.ref a) H4) → g x (wipe σ vs) H' fun σ2 H2 => wipe σ2 vs = wipe σ vs ∧ te σ2 H2 R)
    (hd : ∀ D as H, Objs H1 H D as n o → Qd D H) (D : Addr) (hD : H1 D = none) :
    Turns J g te vs σ H1 D (Qd D) := by
  refine lc_it w (tt := tYes) (Qd := fun H => Qd D H) (fun i H => ∃ as, Objs H1 H D as i o) ⟨[], .start hD⟩ (fun i H _ ⟨as, x⟩ => hG H x.same) ?_ (fun H ⟨as, x⟩ => hd D as H x)
  rintro i x H H' hi ⟨as, ob⟩ y
  have q := hs i x H H' hi ob.same y (fun y H4 => ∃ acc, H4 D = some (.lst acc) ∧ acc.length < sizeLine ∧ ∃ as, Objs H1 (upd H4 D (.lst (acc ++ [y]))) D as (i + 1) o) fun a H4 s h e =>
    ⟨as.map V.ref, s _ _ ob.dl, by rw [List.length_map, ob.len]; exact small1000 (by omega), as ++ [a], ob.push s h e⟩
  have e : (fun (σ2 : L2.St) (H2 : Hp) => wipe σ2 vs = wipe σ vs ∧ te σ2 H2 fun y H4 => ∃ acc, H4 D = some (.lst acc) ∧ acc.length < sizeLine ∧ ∃ as, Objs H1 (upd H4 D (.lst (acc ++ [y]))) D as (i + 1) o) =
      fun σ2 H2 => wipe σ2 vs = wipe σ vs ∧ tYes σ2 H2 fun b H3 => if b = true then te σ2 H3 fun y H4 => ∃ acc, H4 D = some (.lst acc) ∧ acc.length < sizeLine ∧ ∃ as, Objs H1 (upd H4 D (.lst (acc ++ [y]))) D as (i + 1) o else ∃ as, Objs H1 H3 D as (i + 1) o := by
    funext σ2 H2
    simp only [tYes, if_true]
  rw [e] at q
  exact q
/-- the comprehension's list, its items told -/
theorem lc_val {J : It} {n : Nat} {G : Hp → Prop} {Y : Nat → Hp → V → Hp → Prop} (w : Walk J n G Y) {g : TG} {te : TE} {vs : List Nat} {σ : L2.St} {H1 : Hp} {Qd : Addr → Hp → Prop} (val : Nat → V) (hn : n ≤ 1000)
    (hG : ∀ H, Same H1 H → G H)
    (hs : ∀ i x H H', i < n → Same H1 H → Y i H x H' → ∀ R : V → Hp → Prop, (∀ H4, Same H H4 → R (val i) H4) → g x (wipe σ vs) H' fun σ2 H2 => wipe σ2 vs = wipe σ vs ∧ te σ2 H2 R)
    (hd : ∀ D H, Same H1 H → H1 D = none → H D = some (.lst ((List.range n).map val)) → Qd D H) (D : Addr) (hD : H1 D = none) :
    Turns J g te vs σ H1 D (Qd D) := by
  refine lc_it w (tt := tYes) (Qd := fun H => Qd D H) (fun i H => Same H1 H ∧ H D = some (.lst ((List.range i).map val))) ⟨Same.new hD, upd_same⟩ (fun i H _ x => hG H x.1) ?_ (fun H x => hd D H x.1 hD x.2)
  rintro i x H H' hi ⟨sm, hl⟩ y
  have q := hs i x H H' hi sm y (fun y H4 => ∃ acc, H4 D = some (.lst acc) ∧ acc.length < sizeLine ∧ Same H1 (upd H4 D (.lst (acc ++ [y]))) ∧ (upd H4 D (.lst (acc ++ [y]))) D = some (.lst ((List.range (i + 1)).map val))) fun H4 s =>
    ⟨(List.range i).map val, s _ _ hl, by rw [List.length_map, List.length_range]; exact small1000 (by omega), Same.newT (sm.trans s) hD, by rw [upd_same, List.range_succ, List.map_append]; rfl⟩
  have e : (fun (σ2 : L2.St) (H2 : Hp) => wipe σ2 vs = wipe σ vs ∧ te σ2 H2 fun y H4 => ∃ acc, H4 D = some (.lst acc) ∧ acc.length < sizeLine ∧ Same H1 (upd H4 D (.lst (acc ++ [y]))) ∧ (upd H4 D (.lst (acc ++ [y]))) D = some (.lst ((List.range (i + 1)).map val))) =
      fun σ2 H2 => wipe σ2 vs = wipe σ vs ∧ tYes σ2 H2 fun b H3 => if b = true then te σ2 H3 fun y H4 => ∃ acc, H4 D = some (.lst acc) ∧ acc.length < sizeLine ∧ Same H1 (upd H4 D (.lst (acc ++ [y]))) ∧ (upd H4 D (.lst (acc ++ [y]))) D = some (.lst ((List.range (i + 1)).map val)) else Same H1 H3 ∧ H3 D = some (.lst ((List.range (i + 1)).map val)) := by
    funext σ2 H2
    simp only [tYes, if_true]
  rw [e] at q
  exact q
end My

/-! ### the text by places; defs and methods that keep a promise -/
namespace My
open PySem PySem.Spec PyProof.Rows L2

def topS (i : Nat) : Stmt := PySem.Challenge.pw_webtones_k61_whole_kept_in_any_order.main.body.getD i (.Pass ⟨0, 0, 0, 0⟩)
abbrev sCols : Stmt := topS 5
abbrev sMul : Stmt := topS 6
abbrev sCor : Stmt := topS 7
abbrev sWhole : Stmt := topS 8
abbrev sPoly : Stmt := topS 9
abbrev sWalks : Stmt := topS 11
abbrev sClosed : Stmt := topS 12
abbrev mInit : Stmt := inClass (topS 14) 0
abbrev mNeed : Stmt := inClass (topS 14) 1
abbrev mPut : Stmt := inClass (topS 14) 2
abbrev mTake : Stmt := inClass (topS 14) 3
abbrev mTie : Stmt := inClass (topS 14) 4
abbrev mWeb : Stmt := inClass (topS 14) 5
abbrev mPoly : Stmt := inClass (topS 14) 6
abbrev mClosed : Stmt := inClass (topS 14) 7
abbrev sNum : Stmt := topS 16
abbrev sNames : Stmt := topS 17
abbrev sTable : Stmt := topS 18
abbrev sTurned : Stmt := topS 19
abbrev sRight : Stmt := topS 20
abbrev sWeigh : Stmt := topS 21
abbrev sTwo : Stmt := topS 22
abbrev sAnew : Stmt := topS 23
abbrev sLaw : Stmt := topS 24

/-- parts of the text -/
def noE : Expr := .Constant .none 0 ⟨0, 0, 0, 0⟩
def lcSc : Expr → Scope
  | .ListComp _ _ sc _ => sc
  | _ => ⟨.function, [], false, false, []⟩
def lcEl : Expr → Expr
  | .ListComp e _ _ _ => e
  | _ => noE
def retE : Stmt → Expr
  | .Return (some e) _ => e
  | _ => noE
def valE : Stmt → Expr
  | .Assign _ e _ => e
  | _ => noE
def argE (j : Nat) : Expr → Expr
  | .Call _ es _ _ => es.getD j noE
  | _ => noE
def lefE : Expr → Expr
  | .BinOp a _ _ _ => a
  | _ => noE
def nth (l : List Stmt) (i : Nat) : Stmt := l.getD i (.Pass ⟨0, 0, 0, 0⟩)

/-! a def of the module that keeps the promise sp -/
structure Def (P : Program) (w : World) (K : PySem.W.Frag) (mg : Str → Option Value) (base : Heap) (x : Str) (k : Nat) (ps : List Str) (sp : Sp) : Prop where
  ex : ∃ (f : Addr) (fd : FuncData), mg x = some (.ref f) ∧ PySem.W.keepIn K (.ref f) = true ∧ Binds K fd ps [] ∧ FnOk P w K mg base CX0 k f fd ps sp
/-- a method (of the class that stands at C) that keeps the promise sp -/
structure Mdef (P : Program) (w : World) (K : PySem.W.Frag) (mg : Str → Option Value) (base : Heap) (C : Addr) (m : Str) (k : Nat) (ps : List Str) (sp : Sp) : Prop where
  ex : ∃ (f : Addr) (fd : FuncData), Meth K C m f ∧ Binds K fd ps [] ∧ FnOk P w K mg base CX0 k f fd ps sp
section
variable {X : Cx} {k : Nat} {ps : List Str} {sp : Sp} {x m : Str} {C : Addr} {p pos apos : Pos} {e o : Expr} {es : List Expr} {ta : TE} {t : TA}
theorem Def.call (d : Def X.prog X.w X.K X.mg X.base x k ps sp) (hr : Room k X.A) (hg : Gl X x) (ha : PA X (e :: es) t) (hdb : (x == ("__debug__" : Str)) = false := by decide)
    (he : starEach (e :: es) X.env = (false, eval e X.env) :: starEach es X.env := by rfl) (hpl : (backTo pos (starEach es X.env)).any (·.1) = false := by rfl) : PE X (.Call (.Name x p) (e :: es) [] pos) (tCall sp [] E0 t) := by
  obtain ⟨f, fd, hm, hk, hb, F⟩ := d.ex
  exact pe_call F hr hg hm hk hb .nil pass0 ha hdb he hpl
theorem Mdef.call {pl : Sem Bool} (d : Mdef X.prog X.w X.K X.mg X.base C m k ps sp) (c : Cls X.K C) (hr : Room k X.A) (he : PE X o ta) (ha : PA X (e :: es) t)
    (q1 : starEach (e :: es) X.env = (false, eval e X.env) :: starEach es X.env := by rfl)
    (q2 : (backTo pos (starEach es X.env)).any (·.1) = false := by rfl)
    (q3 : eval (.Call (.Attribute o m apos) (e :: es) [] pos) X.env = (do let r ← eval o X.env; standAt apos.atName; let (g, self) ← holding [r] (getMethod r m pl); callWith pos g self (backTo pos (starEach (e :: es) X.env)) (backToKw pos (keywordEach [] X.env))) := by rfl) :
    PE X (.Call (.Attribute o m apos) (e :: es) [] pos) (tMeth C m sp [] E0 ta t) := by
  obtain ⟨f, fd, hm, hb, F⟩ := d.ex
  exact pe_meth he c hm F hr hb .nil pass0 ha q1 q2 q3
theorem Mdef.call0 {pl : Sem Bool} (d : Mdef X.prog X.w X.K X.mg X.base C m k ps sp) (c : Cls X.K C) (hr : Room k X.A) (he : PE X o ta)
    (q3 : eval (.Call (.Attribute o m apos) [] [] pos) X.env = (do let r ← eval o X.env; standAt apos.atName; let (g, self) ← holding [r] (getMethod r m pl); callWith pos g self (backTo pos (starEach [] X.env)) (backToKw pos (keywordEach [] X.env))) := by rfl) :
    PE X (.Call (.Attribute o m apos) [] [] pos) (tMeth C m sp [] E0 ta tNil) := by
  obtain ⟨f, fd, hm, hb, F⟩ := d.ex
  exact pe_meth0 he c hm F hr hb .nil pass0 q3
end
/-- the names that are still the built-ins' -/
structure Bi (mg : Str → Option Value) : Prop where
  range : mg "range" = none
  len : mg "len" = none
  sum : mg "sum" = none
  zip : mg "zip" = none
  tuple : mg "tuple" = none
  list : mg "list" = none
  int : mg "int" = none
  max : mg "max" = none
  min : mg "min" = none
  enumerate : mg "enumerate" = none

/-! ### columns_in, rows_times, corner_sum -/
section
variable {P : Program} {w : World} {K : PySem.W.Frag} {mg : Str → Option Value} {base : Heap}
def spCols (K : PySem.W.Frag) : Sp := fun vs H Q _ => ∃ (a : Addr) (k : Bool) (n : Nat) (f : Nat → Nat → Int), vs = [.ref a] ∧ TabAt k K H a n f ∧ n ≤ 1000 ∧
  ∀ H' p, Same H H' → TabAt true K H' p n (fun i j => f j i) → Q (.ref p) H'
theorem scCols : FnScope ["square", "k", "row"] ["square"] (defScope sCols) := ⟨rfl, rfl, rfl, by decide +kernel, rfl, by decide +kernel, by decide +kernel⟩
theorem ok_cols {f : Addr} {fd : FuncData} (F : Fun K "columns_in" "columns_in" sCols f fd) (B : Bi mg) : FnOk P w K mg base CX0 1 f fd ["square"] (spCols K) := by
  refine F.ok scCols (fun vs H Q E h => ?_) (fun cdv A outer s H vs Q E hr h => ?_)
  · obtain ⟨a, k, n, f, rfl, _⟩ := h
    rfl
  · obtain ⟨a, k, n, f, rfl, T, hn, hq⟩ := h
    refine ⟨_, pss_one (ps_ret (pe_lc (own := [("k", 1)]) (g := gName 1) (tt := tYes) rfl scCols.nd
      (pi_range1 rfl B.range (pa_cons (pe_callB call_len_seq (by rfl) B.len PySem.boot_len (pa_cons (pv 0) pa_nil)) pa_nil))
      (blkOk_by (own := [("k", 1)]) (N := ["square", "k", "row"]) (sc := defScope sCols) (by decide +kernel)) (fun _ _ _ _ _ => pg_name (i := 1) scCols.nd rfl (Or.inr rfl)) (fun _ _ _ _ _ => pts_nil)
      (fun _ _ _ _ _ => pe_lc (own := [("row", 2)]) (g := gName 2) (tt := tYes) rfl scCols.nd (pi_K (K := K) k (pv 0))
        (blkOk_by (own := [("row", 2)]) (N := ["square", "k", "row"]) (sc := relS (lcSc (retE (nth (defBody sCols) 0))) (defScope sCols)) (by decide +kernel)) (fun _ _ _ _ _ => pg_name (i := 2) scCols.nd rfl (Or.inl rfl)) (fun _ _ _ _ _ => pts_nil)
        (fun _ _ _ _ _ => pe_ix (ix_K (K := K) k) (pv 2) (pv 1) (fun _ _ => rfl))))), ?_⟩
    obtain ⟨as, h1, h2, h3⟩ := T.ex
    refine ⟨_, rfl, a, _, rfl, h1.len, _, rfl, by simp only [List.length_map]; omega, by simp only [List.length_map]; omega, ?_⟩
    have e0 : (((as.map V.ref).length : Int)).toNat = n := by simp [h2]
    rw [e0]
    refine lc_obj walk_range (fun i => .lst (rowV n fun j => f j i)) hn (fun _ _ => True.intro) ?_ ?_
    · rintro i x H1 H2 hi s1 ⟨rfl, rfl⟩ R q
      refine ⟨rfl, iK_of ⟨_, rfl, a, rfl, ⟨_, Same.sqK s1 h1⟩, ?_⟩⟩
      refine lc_val walk_K (fun j => .int (f j i)) (by rw [List.length_map, h2]; exact hn) (fun H3 s => Same.sqK (s1.trans s) h1) ?_ ?_
      · rintro j v H3 H4 hj s2 ⟨rfl, hv⟩ R2 q2
        obtain ⟨b, rfl, hb⟩ := ref_at hv
        refine ⟨rfl, _, rfl, _, rfl, b, _, i, _, rfl, ?_, Same.sqK (s1.trans s2) (h3 j b hb), rowV_at hi, q2 _ (Same.refl _)⟩
        show V.int (0 + (i : Int)) = _
        rw [Int.zero_add]
      · intro D H3 s2 hD hl
        rw [List.length_map, h2] at hl
        exact q D H3 s2 hD hl
    · intro D bs H1 ob
      exact hq H1 D ob.same ob.tab
end
end My

/-! ### rows_times, corner_sum -/
namespace My
open PySem PySem.Spec PyProof.Rows L2

theorem Objs.low {H0 H1 H : Hp} {D : Addr} {as : List Addr} {m : Nat} {o : Nat → HO} (x : Objs H1 H D as m o) (s : Same H0 H1) : Objs H0 H D as m o :=
  ⟨s.trans x.same, s.free x.dn, x.dl, x.len, x.nd, fun a ha => s.free (x.nw a ha), x.elt⟩
theorem Objs.write {H0 H : Hp} {D a : Addr} {as : List Addr} {m i : Nat} {o : Nat → HO} (x : Objs H0 H D as m o) (h : as[i]? = some a) (u : HO) : Objs H0 (upd H a u) D as m (fun j => if j = i then u else o j) := by
  have ha : a ∈ as := List.mem_of_getElem? h
  have haD : D ≠ a := fun z => (List.nodup_cons.mp x.nd).1 (z ▸ ha)
  refine ⟨Same.newT x.same (x.nw a ha), x.dn, by rw [upd_ne haD]; exact x.dl, x.len, x.nd, x.nw, fun j b hb => ?_⟩
  by_cases hj : j = i
  · subst hj
    rw [h] at hb; cases hb
    rw [upd_same, if_pos rfl]
  · have hba : b ≠ a := fun z => hj (nd_ix (List.nodup_cons.mp x.nd).2 hb (z ▸ h))
    rw [upd_ne hba, if_neg hj]
    exact x.elt j b hb
theorem Objs.off {H0 H : Hp} {D b : Addr} {as : List Addr} {m : Nat} {o : Nat → HO} (x : Objs H0 H D as m o) (h : H0 b = none) (hb : b ∉ D :: as) (u : HO) : Objs H0 (upd H b u) D as m o := by
  refine ⟨Same.newT x.same h, x.dn, by rw [upd_ne fun z => hb (by rw [← z]; exact List.mem_cons_self)]; exact x.dl, x.len, x.nd, x.nw, fun j c hc => ?_⟩
  rw [upd_ne fun z => hb (by rw [← z]; exact List.mem_cons_of_mem _ (List.mem_of_getElem? hc))]
  exact x.elt j c hc
theorem Objs.congr {H0 H : Hp} {D : Addr} {as : List Addr} {m : Nat} {o o' : Nat → HO} (x : Objs H0 H D as m o) (e : ∀ i, i < m → o i = o' i) : Objs H0 H D as m o' :=
  ⟨x.same, x.dn, x.dl, x.len, x.nd, x.nw, fun i a h => by
    rw [← e i (x.len ▸ (List.getElem?_eq_some_iff.mp h).1)]
    exact x.elt i a h⟩
theorem ixN_nat {n j : Nat} (h : j < n) : ixN n ((j : Nat) : Int) = some j := by
  unfold ixN
  rw [if_pos (Int.natCast_nonneg j), if_pos (by omega), Int.toNat_natCast]
theorem int_zero_add (i : Nat) : V.int (0 + (i : Int)) = V.int ((i : Nat) : Int) := by rw [Int.zero_add]

def mulF (n : Nat) (f g : Nat → Nat → Int) : Nat → Nat → Int := fun i j => ((List.range n).map fun k => f i k * g k j).sum
def traceF (n : Nat) (f : Nat → Nat → Int) : Int := ((List.range n).map fun k => f k k).sum
/-- its numbers are small -/
def Small (n : Nat) (f : Nat → Nat → Int) : Prop := ∀ i j, i < n → j < n → -(2 ^ 64) < f i j ∧ f i j < 2 ^ 64
section
variable {P : Program} {w : World} {K : PySem.W.Frag} {mg : Str → Option Value} {base : Heap}
def spMul (K : PySem.W.Frag) : Sp := fun vs H Q _ => ∃ (a b : Addr) (ka kb : Bool) (n : Nat) (f g : Nat → Nat → Int), vs = [.ref a, .ref b] ∧ TabAt ka K H a n f ∧ TabAt kb K H b n g ∧ n ≤ 1000 ∧ (Small n f ∨ Small n g) ∧
  ∀ H' D as, Objs H H' D as n (fun i => .lst (rowV n (mulF n f g i))) → Q (.ref D) H'
abbrev nmMul : List Str := ["one", "other", "columns", "row", "column", "a", "b"]
theorem scMul : FnScope nmMul ["one", "other"] (defScope sMul) := ⟨rfl, rfl, rfl, by decide +kernel, rfl, by decide +kernel, by decide +kernel⟩
abbrev eMul : Expr := retE (nth (defBody sMul) 1)
theorem ok_mul {f : Addr} {fd : FuncData} (F : Fun K "rows_times" "rows_times" sMul f fd) (B : Bi mg) (dC : Def P w K mg base "columns_in" 1 ["square"] (spCols K)) : FnOk P w K mg base CX0 2 f fd ["one", "other"] (spMul K) := by
  refine F.ok scMul (fun vs H Q E h => ?_) (fun cdv A outer s H vs Q E hr h => ?_)
  · obtain ⟨a, b, ka, kb, n, f, g, rfl, _⟩ := h
    rfl
  · obtain ⟨a, b, ka, kb, n, f, g, rfl, Ta, Tb, hn, hsm, hq⟩ := h
    refine ⟨_, pss_cons (ps_set (i := 2) scMul.nd rfl (Or.inr rfl) (dC.call hr rfl (pa_cons (pv 1) pa_nil)))
      (pss_one (ps_ret (pe_lc (own := [("row", 3)]) (g := gName 3) (tt := tYes) rfl scMul.nd (pi_K (K := K) ka (pv 0))
        (blkOk_by (own := [("row", 3)]) (N := nmMul) (sc := defScope sMul) (by decide +kernel)) (fun _ _ _ _ _ => pg_name (i := 3) scMul.nd rfl (Or.inr rfl)) (fun _ _ _ _ _ => pts_nil)
        (fun _ _ _ _ _ => pe_lc (own := [("column", 4)]) (g := gName 4) (tt := tYes) rfl scMul.nd (pi_K (K := K) true (pv 2))
          (blkOk_by (own := [("column", 4)]) (N := nmMul) (sc := relS (lcSc eMul) (defScope sMul)) (by decide +kernel)) (fun _ _ _ _ _ => pg_name (i := 4) scMul.nd rfl (Or.inl rfl)) (fun _ _ _ _ _ => pts_nil)
          (fun _ _ _ _ _ => pe_callB (c_sum (K := K)) (by rfl) B.sum (by decide +kernel) (pa_cons
            (pe_lc (own := [("a", 5), ("b", 6)]) (g := gTup K 2 (gCons (gName 5) (gCons (gName 6) gNil))) (tt := tYes) rfl scMul.nd (p_zip (K := K) ka true (by rfl) B.zip (pa_cons (pv 3) (pa_cons (pv 4) pa_nil)))
              (blkOk_by (own := [("a", 5), ("b", 6)]) (N := nmMul) (sc := relS (lcSc (lcEl eMul)) (relS (lcSc eMul) (defScope sMul))) (by decide +kernel))
              (fun _ _ _ _ _ => g_tup rfl (pgs_cons (pg_name (i := 5) scMul.nd rfl (Or.inl rfl)) (pgs_cons (pg_name (i := 6) scMul.nd rfl (Or.inl rfl)) pgs_nil))) (fun _ _ _ _ _ => pts_nil)
              (fun _ _ _ _ _ => pe_op op_mul (pv 5) (pv 6))) pa_nil)))))), ?_⟩
    obtain ⟨as, h1, h2, h3⟩ := Ta.ex
    refine ⟨_, rfl, b, kb, n, g, rfl, Tb, hn, fun H1 c s1 Tc => ?_⟩
    obtain ⟨cs, c1, c2, c3⟩ := Tc.ex
    refine iK_of ⟨_, rfl, a, rfl, ⟨_, Same.sqK s1 h1⟩, ?_⟩
    have hla : (as.map V.ref).length = n := by rw [List.length_map, h2]
    have hlc : (cs.map V.ref).length = n := by rw [List.length_map, c2]
    refine lc_obj walk_K (fun i => .lst (rowV n (mulF n f g i))) (by rw [hla]; exact hn) (fun H2 s => Same.sqK (s1.trans s) h1) ?_ ?_
    · rintro i x H2 H3 hi s2 ⟨rfl, hx⟩ R q
      obtain ⟨r, rfl, hr2⟩ := ref_at hx
      refine ⟨rfl, iK_of ⟨_, rfl, c, rfl, ⟨_, Same.sqK (k := true) s2 c1⟩, ?_⟩⟩
      refine lc_val walk_K (fun j => .int (mulF n f g i j)) (by rw [hlc]; exact hn) (fun H3 s => Same.sqK (k := true) (s2.trans s) c1) ?_ ?_
      · rintro j x H4 H5 hj s3 ⟨rfl, hy⟩ R2 q2
        obtain ⟨l, rfl, hl⟩ := ref_at hy
        have hj' : j < n := hlc ▸ hj
        have hi' : i < n := hla ▸ hi
        refine ⟨rfl, _, rfl, _, rfl, r, l, _, _, rfl, Same.sqK ((s1.trans s2).trans s3) (h3 i r hr2), Same.sqK (k := true) (s2.trans s3) (c3 j l hl), ?_⟩
        refine lc_val (walk_zipK (n := n) (by simp [rowV_len])) (fun k => .int (f i k * g k j)) hn (fun H6 s => ⟨Same.sqK (((s1.trans s2).trans s3).trans s) (h3 i r hr2), Same.sqK (k := true) ((s2.trans s3).trans s) (c3 j l hl)⟩) ?_ ?_
        · rintro k x H6 H7 hk s4 ⟨T, x1, y1, rfl, hT, rfl, e1, e2⟩ R3 q3
          obtain ⟨_, rfl⟩ := rowV_inv e1
          obtain ⟨_, rfl⟩ := rowV_inv e2
          refine ⟨T, _, rfl, SqT.of upd_same, rfl, _, _, rfl, _, _, rfl, rfl, rfl, _, rfl, _, rfl, _, _, rfl, rfl, ?_, q3 _ (Same.new hT)⟩
          rcases hsm with z | z
          · exact .inl (z i k hi' hk)
          · exact .inr (z k j hk hj')
        · intro D H6 s4 hD hl6
          refine ⟨D, (List.range n).map fun k => f i k * g k j, rfl, SqL.of (by rw [hl6, List.map_map]; rfl), q2 _ s4⟩
      · intro D H4 s3 hD hl
        rw [hlc] at hl
        exact q D H4 s3 hD hl
    · intro D bs H2 ob
      rw [hla] at ob
      exact hq H2 D bs (ob.low s1)
def spCor (K : PySem.W.Frag) : Sp := fun vs H Q _ => ∃ (a : Addr) (k : Bool) (n : Nat) (f : Nat → Nat → Int), vs = [.ref a] ∧ TabAt k K H a n f ∧ n ≤ 1000 ∧ ∀ H', Same H H' → Q (.int (traceF n f)) H'
theorem scCor : FnScope ["square", "k"] ["square"] (defScope sCor) := ⟨rfl, rfl, rfl, by decide +kernel, rfl, by decide +kernel, by decide +kernel⟩
theorem ok_cor {f : Addr} {fd : FuncData} (F : Fun K "corner_sum" "corner_sum" sCor f fd) (B : Bi mg) : FnOk P w K mg base CX0 1 f fd ["square"] (spCor K) := by
  refine F.ok scCor (fun vs H Q E h => ?_) (fun cdv A outer s H vs Q E hr h => ?_)
  · obtain ⟨a, k, n, f, rfl, _⟩ := h
    rfl
  · obtain ⟨a, k, n, f, rfl, T, hn, hq⟩ := h
    refine ⟨_, pss_one (ps_ret (pe_callB (c_sum (K := K)) (by rfl) B.sum (by decide +kernel) (pa_cons (pe_lc (own := [("k", 1)]) (g := gName 1) (tt := tYes) rfl scCor.nd
      (pi_range1 rfl B.range (pa_cons (pe_callB (c_len (K := K)) (by rfl) B.len PySem.boot_len (pa_cons (pv 0) pa_nil)) pa_nil))
      (blkOk_by (own := [("k", 1)]) (N := ["square", "k"]) (sc := defScope sCor) (by decide +kernel)) (fun _ _ _ _ _ => pg_name (i := 1) scCor.nd rfl (Or.inl rfl)) (fun _ _ _ _ _ => pts_nil)
      (fun _ _ _ _ _ => pe_ix (ix_K (K := K) k) (pe_ix (ix_K (K := K) k) (pv 0) (pv 1) (fun _ _ => rfl)) (pv 1) (fun _ _ => rfl))) pa_nil))), ?_⟩
    obtain ⟨as, h1, h2, h3⟩ := T.ex
    refine ⟨_, rfl, a, _, rfl, h1.len, _, rfl, by simp only [List.length_map]; omega, by simp only [List.length_map]; omega, ?_⟩
    have e0 : (((as.map V.ref).length : Int)).toNat = n := by simp [h2]
    rw [e0]
    refine lc_val walk_range (fun k => .int (f k k)) hn (fun _ _ => True.intro) ?_ ?_
    · rintro i x H1 H2 hi s1 ⟨rfl, rfl⟩ R q
      have hb : as[i]? = some (as[i]'(by omega)) := by simp [show i < as.length by omega]
      exact ⟨rfl, _, rfl, _, rfl, a, _, i, _, rfl, int_zero_add i, Same.sqK s1 h1, ref_to hb, _, rfl, _, _, i, _, rfl, int_zero_add i, Same.sqK s1 (h3 i _ hb), rowV_at hi, q _ (Same.refl _)⟩
    · intro D H1 s1 hD hl
      exact ⟨D, (List.range n).map fun k => f k k, rfl, SqL.of (by rw [hl, List.map_map]; rfl), hq H1 s1⟩
end
end My

/-! ### whole_poly, poly_of -/
namespace My
open PySem PySem.Spec PyProof.Rows L2

/-- behind k turns: the numbers but the last, the last, the square -/
def wpol (n : Nat) (f : Nat → Nat → Int) : Nat → List Int × Int × (Nat → Nat → Int)
  | 0 => ([], 1, fun _ _ => 0)
  | k + 1 =>
    let s := wpol n f k
    let sq : Nat → Nat → Int := fun i j => if j = i ∧ i < n then mulF n f s.2.2 i j + s.2.1 else mulF n f s.2.2 i j
    (s.1 ++ [s.2.1], -(traceF n (mulF n f sq)) / ((1 : Int) + (k : Nat)), sq)
def polyF (n : Nat) (f : Nat → Nat → Int) : List Int := ((wpol n f n).1 ++ [(wpol n f n).2.1]).reverse
/-- the square behind p of the places -/
def diagP (p : Nat) (l : Int) (g : Nat → Nat → Int) : Nat → Nat → Int := fun i j => if j = i ∧ i < p then g i j + l else g i j
theorem wpol_succ (n : Nat) (f : Nat → Nat → Int) (k : Nat) : wpol n f (k + 1) = ((wpol n f k).1 ++ [(wpol n f k).2.1], -(traceF n (mulF n f (diagP n (wpol n f k).2.1 (mulF n f (wpol n f k).2.2)))) / ((1 : Int) + (k : Nat)), diagP n (wpol n f k).2.1 (mulF n f (wpol n f k).2.2)) := rfl
section
variable {P : Program} {w : World} {K : PySem.W.Frag} {mg : Str → Option Value} {base : Heap}
def spWhole (K : PySem.W.Frag) : Sp := fun vs H Q _ => ∃ (a : Addr) (k : Bool) (n : Nat) (f : Nat → Nat → Int), vs = [.ref a] ∧ TabAt k K H a n f ∧ n ≤ 900 ∧ Small n f ∧
  ∀ H' p, Same H H' → H' p = some (.lst ((polyF n f).map V.int)) → Q (.ref p) H'
abbrev nmWhole : List Str := ["table", "size", "found", "square", "k", "place", "row"]
theorem scWhole : FnScope nmWhole ["table"] (defScope sWhole) := ⟨rfl, rfl, rfl, by decide +kernel, rfl, by decide +kernel, by decide +kernel⟩
theorem ok_whole {f : Addr} {fd : FuncData} (F : Fun K "whole_poly" "whole_poly" sWhole f fd) (B : Bi mg) (dM : Def P w K mg base "rows_times" 2 ["one", "other"] (spMul K)) (dC : Def P w K mg base "corner_sum" 1 ["square"] (spCor K)) :
    FnOk P w K mg base CX0 3 f fd ["table"] (spWhole K) := by
  refine F.ok scWhole (fun vs H Q E h => ?_) (fun cdv A outer s H vs Q E hr h => ?_)
  · obtain ⟨a, k, n, f, rfl, _⟩ := h
    rfl
  · obtain ⟨a, k, n, f, rfl, T, hn, hsm, hq⟩ := h
    refine ⟨_, pss_cons (ps_set (i := 1) scWhole.nd rfl (Or.inr rfl) (pe_callB (c_len (K := K)) (by rfl) B.len PySem.boot_len (pa_cons (pv 0) pa_nil)))
      (pss_cons (ps_set (i := 2) scWhole.nd rfl (Or.inl rfl) (pe_lst (pa_cons pe_int pa_nil)))
      (pss_cons (ps_setLc (i := 3) (own := [("row", 6)]) (g := gName 6) (tt := tYes) (by rfl) scWhole.nd rfl rfl (sw_true rfl rfl rfl (by decide +kernel)) (pi_K (K := K) k (pv 0))
        (blkOk_by (own := [("row", 6)]) (N := nmWhole) (sc := defScope sWhole) (by decide +kernel)) (fun _ _ _ _ _ => pg_name (i := 6) scWhole.nd rfl (Or.inl rfl)) (fun _ _ _ _ _ => pts_nil)
        (fun _ _ _ _ _ => pe_op op_rep (pe_lst (pa_cons pe_int pa_nil)) (pv 1)))
      (pss_cons (ps_for PassesOwn.never rfl (pi_range2 (by rfl) B.range (pa_cons pe_int (pa_cons (pe_op op_add (pv 1) pe_int) pa_nil))) (pg_name (i := 4) scWhole.nd rfl (Or.inl rfl))
        (pss_cons (ps_set (i := 3) scWhole.nd rfl (Or.inl rfl) (dM.call hr rfl (pa_cons (pv 0) (pa_cons (pv 3) pa_nil))))
        (pss_cons (ps_for PassesOwn.never rfl (pi_range1 (by rfl) B.range (pa_cons (pv 1) pa_nil)) (pg_name (i := 5) scWhole.nd rfl (Or.inl rfl))
          (pss_one (ps_augS (pe_ix (ix_K (K := K) true) (pv 3) (pv 5) (fun _ _ => rfl)) (pv 5) get_list (pe_ix ix_list (pv 2) (pe_un un_neg pe_int) (fun _ _ => rfl)) ip_add set_list)))
        (pss_one (ps_expr (pe_bm PySem.F.plainAttrs_list PySem.F.slot_list_append PySem.F.type_list_append mt_append (pv 2) (pa_cons
          (pe_op op_fdiv (pe_un un_neg (dC.call (hr.mono (by decide)) rfl (pa_cons (dM.call hr rfl (pa_cons (pv 0) (pa_cons (pv 3) pa_nil))) pa_nil))) (pv 4)) pa_nil)))))))
      (pss_one (ps_ret (pe_revL (pv 2))))))), ?_⟩
    obtain ⟨as, h1, h2, h3⟩ := T.ex
    have hla : (as.map V.ref).length = n := by rw [List.length_map, h2]
    refine ⟨_, rfl, a, _, rfl, h1.len, by rw [sizeLine_eq]; decide, fun fa na => ?_⟩
    rw [hla]
    refine iK_of ⟨_, rfl, a, rfl, ⟨_, Same.sqK (Same.new na) h1⟩, ?_⟩
    refine lc_obj walk_K (fun _ => .lst (rowV n (fun _ => 0))) (by rw [hla]; omega) (fun H3 s => Same.sqK ((Same.new na).trans s) h1) ?_ ?_
    · rintro i x H2 H3 hi s2 ⟨rfl, hx⟩ R q
      refine ⟨rfl, by rw [sizeLine_eq]; decide, fun l nl => ⟨_, rfl, l, _, _, rfl, rfl, upd_same, by omega, by omega, ?_, fun p np => q p _ ?_ ?_ ?_⟩⟩
      · show 1 * (n : Int).toNat ≤ sizeLine
        rw [sizeLine_eq]; omega
      · exact Same.out (Same.new nl) np
      · exact (Same.new nl).free np
      · rw [upd_same, ← rowV_zeros]; simp
    · intro sq bs H1 ob
      rw [hla] at ob
      have hfa : H1 fa = some (.lst [.int 1]) := ob.same _ _ upd_same
      have nfa : fa ∉ sq :: bs := fun z => by
        have e0 : (upd H fa (.lst [.int 1])) fa = none := by
          rcases List.mem_cons.mp z with z | z
          · exact (congrArg (upd H fa (.lst [.int 1])) z).trans ob.dn
          · exact ob.nw _ z
        rw [upd_same] at e0; cases e0
      have s1 : Same H H1 := (Same.new na).trans ob.same
      refine ⟨_, rfl, _, _, rfl, rfl, 1, _, rfl, by omega, ?_⟩
      have eT : ((n : Int) + 1 - 1).toNat = n := by omega
      rw [eT]
      refine for_range (lo := 1) (n := n) (fun i σ H2 => ∃ (sq : Addr) (bs : List Addr) (v4 v5 : Option V), σ = [some (.ref a), some (.int (n : Nat)), some (.ref fa), some (.ref sq), v4, v5, none] ∧
        Objs H H2 sq bs n (fun j => .lst (rowV n ((wpol n f i).2.2 j))) ∧ H2 fa = some (.lst (((wpol n f i).1 ++ [(wpol n f i).2.1]).map V.int)) ∧ fa ∉ sq :: bs) ⟨sq, bs, none, none, rfl, ob.low (Same.new na), hfa, nfa⟩ ?_ ?_
      · rintro i σ H2 hi ⟨sq, bs, v4, v5, rfl, ob, hfa, nfa⟩
        refine ⟨_, rfl, _, rfl, a, sq, k, true, n, f, _, rfl, Same.tab ob.same T, ob.tab, by omega, .inl hsm, fun H3 sq' bs' ob3 => ?_⟩
        have hfa3 := ob3.same _ _ hfa
        have nfa3 : fa ∉ sq' :: bs' := fun z => by
          have e0 : H2 fa = none := by
            rcases List.mem_cons.mp z with z | z
            · rw [z]; exact ob3.dn
            · exact ob3.nw _ z
          rw [hfa] at e0; cases e0
        refine ⟨_, rfl, _, rfl, by omega, by omega, ?_⟩
        rw [Int.toNat_natCast]
        refine for_range (lo := 0) (n := n) (fun p σ H4 => ∃ (v5 : Option V), σ = [some (.ref a), some (.int (n : Nat)), some (.ref fa), some (.ref sq'), some (.int (1 + (i : Nat))), v5, none] ∧
          Objs H2 H4 sq' bs' n (fun j => .lst (rowV n (diagP p (wpol n f i).2.1 (mulF n f (wpol n f i).2.2) j)))) ⟨v5, rfl, ob3.congr fun j hj => ?_⟩ ?_ ?_
        · show _ = HO.lst (rowV n (diagP 0 _ _ j))
          congr 1
          exact rowV_congr fun j' _ => by simp [diagP]
        · rintro p σ H4 hp ⟨v5', rfl, ob4⟩
          have hbp : bs'[p]? = some (bs'[p]'(by rw [ob4.len]; exact hp)) := by simp [show p < bs'.length by rw [ob4.len]; exact hp]
          refine ⟨_, rfl, _, rfl, sq', _, p, _, rfl, int_zero_add p, SqL.of ob4.dl, ref_to hbp, _, rfl, _, _, p, _, rfl, int_zero_add p, ob4.elt p _ hbp, rowV_at hp,
            _, rfl, _, rfl, fa, _, -1, .int (wpol n f i).2.1, rfl, rfl, SqL.of (ob4.same _ _ hfa), by rw [List.map_append]; exact atI_last _ _, _, _, rfl, rfl, _, _, _, p, rfl, rfl, ob4.elt p _ hbp, ?_, ?_⟩
          · rw [rowV_len, Int.zero_add]; exact ixN_nat hp
          · refine ⟨_, rfl, ?_⟩
            rw [rowV_set]
            refine (ob4.write hbp _).congr fun j hj => ?_
            by_cases e : j = p
            · subst e
              rw [if_pos rfl]
              congr 1
              refine rowV_congr fun j' _ => ?_
              unfold diagP
              by_cases e2 : j' = j <;> simp [e2]
            · rw [if_neg e]
              congr 1
              refine rowV_congr fun j' _ => ?_
              unfold diagP
              by_cases e2 : j' = j
              · subst e2
                have e3 : (j' < p + 1) = (j' < p) := propext ⟨fun z => by omega, fun z => by omega⟩
                simp only [true_and, e3]
              · simp [e2]
        · rintro σ H4 ⟨v5', rfl, ob4⟩
          have sH4 : Same H H4 := ob.same.trans ob4.same
          refine ⟨_, rfl, .inl ⟨rfl, _, SqL.of (ob4.same _ _ hfa)⟩, _, rfl, _, rfl, a, sq', k, true, n, f, _, rfl, Same.tab sH4 T, ob4.tab, by omega, .inl hsm, fun H5 m5 bs5 ob5 => ?_⟩
          refine ⟨m5, true, n, _, rfl, ob5.tab, by omega, fun H6 s6 => ?_⟩
          have s46 : Same H4 H6 := ob5.same.trans s6
          refine ⟨_, rfl, _, rfl, _, _, rfl, rfl, ⟨by omega, by omega⟩, fa, _, _, rfl, rfl, s46 _ _ (ob4.same _ _ hfa), ?_, ?_⟩
          · have hl : ∀ m, (wpol n f m).1.length = m := fun m => by
              induction m with
              | zero => rfl
              | succ m ih => rw [wpol_succ, List.length_append, ih]; rfl
            rw [List.length_map, List.length_append, hl]
            exact small1000 (by simp; omega)
          · have ob6 : Objs H H6 sq' bs' n (fun j => .lst (rowV n ((wpol n f (i + 1)).2.2 j))) := ((ob4.low ob.same).carry s46).congr fun j hj => rfl
            refine ⟨sq', bs', _, _, rfl, ob6.off na nfa3 _, ?_, nfa3⟩
            rw [upd_same, wpol_succ, List.map_append, List.map_append, List.map_append]
            rfl
      · rintro σ H2 ⟨sq, bs, v4, v5, rfl, ob, hfa, nfa⟩
        refine ⟨_, rfl, fa, _, rfl, SqL.of hfa, fun p np => hq _ p ?_ ?_⟩
        · exact Same.out ob.same np
        · rw [upd_same, ← List.map_reverse]; rfl
/-- a polynomial as a tuple of fractions -/
structure PolyAt (K : PySem.W.Frag) (H : Hp) (p : Addr) (l : List Int) : Prop where
  ex : ∃ as : List Addr, SqT K H p (as.map V.ref) ∧ as.length = l.length ∧ ∀ (i : Nat) (b : Addr), as[i]? = some b → SqT K H b [.int (l.getD i 0), .int 1]
def spPoly (K : PySem.W.Frag) : Sp := fun vs H Q _ => ∃ (a : Addr) (k : Bool) (n : Nat) (f : Nat → Nat → Int), vs = [.ref a] ∧ TabAt k K H a n f ∧ n ≤ 900 ∧ Small n f ∧
  ∀ H' p, Same H H' → PolyAt K H' p (polyF n f) → Q (.ref p) H'
theorem scPoly : FnScope ["table", "number"] ["table"] (defScope sPoly) := ⟨rfl, rfl, rfl, by decide +kernel, rfl, by decide +kernel, by decide +kernel⟩
theorem polyF_len (n : Nat) (f : Nat → Nat → Int) : (polyF n f).length = n + 1 := by
  have hl : ∀ m, (wpol n f m).1.length = m := fun m => by
    induction m with
    | zero => rfl
    | succ m ih => rw [wpol_succ, List.length_append, ih]; rfl
  unfold polyF
  rw [List.length_reverse, List.length_append, hl]; rfl
theorem ok_poly {f : Addr} {fd : FuncData} (F : Fun K "poly_of" "poly_of" sPoly f fd) (B : Bi mg) (dW : Def P w K mg base "whole_poly" 3 ["table"] (spWhole K)) : FnOk P w K mg base CX0 4 f fd ["table"] (spPoly K) := by
  refine F.ok scPoly (fun vs H Q E h => ?_) (fun cdv A outer s H vs Q E hr h => ?_)
  · obtain ⟨a, k, n, f, rfl, _⟩ := h
    rfl
  · obtain ⟨a, k, n, f, rfl, T, hn, hsm, hq⟩ := h
    refine ⟨_, pss_one (ps_ret (pe_callTy (c_tup (K := K)) (by rfl) B.tuple (by decide +kernel) (pa_cons (pe_lc (own := [("number", 1)]) (g := gName 1) (tt := tYes) rfl scPoly.nd
      (pi_K (K := K) true (dW.call hr rfl (pa_cons (pv 0) pa_nil)))
      (blkOk_by (own := [("number", 1)]) (N := ["table", "number"]) (sc := defScope sPoly) (by decide +kernel)) (fun _ _ _ _ _ => pg_name (i := 1) scPoly.nd rfl (Or.inl rfl)) (fun _ _ _ _ _ => pts_nil)
      (fun _ _ _ _ _ => pe_tup (pa_cons (pv 1) (pa_cons pe_int pa_nil)))) pa_nil))), ?_⟩
    refine ⟨_, rfl, a, k, n, f, rfl, T, hn, hsm, fun H1 p s1 hp => ⟨p, rfl, ⟨_, SqL.of hp⟩, ?_⟩⟩
    refine lc_obj (walk_K (k := true)) (fun i => .tup [.int ((polyF n f).getD i 0), .int 1]) (by rw [List.length_map, polyF_len]; omega) (fun H3 s => SqL.of (s _ _ hp)) ?_ ?_
    · rintro i x H2 H3 hi s2 ⟨rfl, hx⟩ R q
      have e : x = .int ((polyF n f).getD i 0) := by
        rw [List.length_map] at hi
        rw [List.getElem?_map, List.getElem?_eq_getElem hi] at hx
        rw [List.getD_eq_getElem?_getD, List.getElem?_eq_getElem hi]
        exact (Option.some.inj hx).symm
      subst e
      exact ⟨rfl, _, rfl, (by show 2 ≤ sizeLine; decide), fun t nt => q t _ (Same.new nt) nt upd_same⟩
    · intro D bs H2 ob
      rw [List.length_map] at ob
      refine ⟨D, _, rfl, SqL.of ob.dl, fun l nl => hq _ l ?_ ?_⟩
      · exact Same.out (s1.trans ob.same) nl
      · refine ⟨bs, SqT.of upd_same, ob.len, fun i b hb => SqT.of ?_⟩
        rw [upd_ne (ne_of_none (ob.elt i b hb) nl)]
        exact ob.elt i b hb
end
end My

/-! ### walks_of, closed_walks -/
namespace My
open PySem PySem.Spec PyProof.Rows L2

def powF (n : Nat) (f : Nat → Nat → Int) : Nat → Nat → Nat → Int
  | 0 => fun i j => if decide (V.int (0 + (i : Int)) = V.int (0 + (j : Int))) = true then 1 else 0
  | m + 1 => mulF n (powF n f m) f
def closedF (n : Nat) (f : Nat → Nat → Int) (m : Nat) : Int := traceF n (powF n f m)
theorem sum_ones : ∀ n : Nat, ((List.range n).map fun _ => (1 : Int)).sum = n
  | 0 => rfl
  | n + 1 => by
    rw [List.range_succ, List.map_append, List.sum_append, sum_ones n]
    simp
theorem closed_zero (n : Nat) (f : Nat → Nat → Int) : closedF n f 0 = n := by
  unfold closedF traceF powF
  rw [← sum_ones n]
  congr 1
  apply List.map_congr_left
  intro a _
  simp
/-- a web: names, table -/
structure WebAt (K : PySem.W.Frag) (H : Hp) (a : Addr) (ns : List Str) (n : Nat) (f : Nat → Nat → Int) : Prop where
  ex : ∃ p q, SqT K H a [.ref p, .ref q] ∧ SqT K H p (ns.map V.str) ∧ TabAt false K H q n f
  len : ns.length = n
theorem Same.web {K : PySem.W.Frag} {H H' : Hp} {a : Addr} {ns : List Str} {n : Nat} {f : Nat → Nat → Int} (s : Same H H') (h : WebAt K H a ns n f) : WebAt K H' a ns n f := by
  obtain ⟨p, q, h1, h2, h3⟩ := h.ex
  exact ⟨⟨p, q, Same.sqT s h1, Same.sqT s h2, Same.tab s h3⟩, h.len⟩
section
variable {P : Program} {w : World} {K : PySem.W.Frag} {mg : Str → Option Value} {base : Heap}
def spWalks (K : PySem.W.Frag) : Sp := fun vs H Q _ => ∃ (a : Addr) (m n : Nat) (ns : List Str) (f : Nat → Nat → Int), vs = [.ref a, .int ((m : Nat) : Int)] ∧ WebAt K H a ns n f ∧ n ≤ 900 ∧ m ≤ 900 ∧ Small n f ∧
  ∀ H' p, Same H H' → TabAt false K H' p n (powF n f m) → Q (.ref p) H'
abbrev nmWalks : List Str := ["web", "many", "names", "table", "found", "tie", "row", "place"]
theorem scWalks : FnScope nmWalks ["web", "many"] (defScope sWalks) := ⟨rfl, rfl, rfl, by decide +kernel, rfl, by decide +kernel, by decide +kernel⟩
abbrev eId : Expr := valE (nth (defBody sWalks) 1)
theorem ok_walks {f : Addr} {fd : FuncData} (F : Fun K "walks_of" "walks_of" sWalks f fd) (B : Bi mg) (dM : Def P w K mg base "rows_times" 2 ["one", "other"] (spMul K)) : FnOk P w K mg base CX0 3 f fd ["web", "many"] (spWalks K) := by
  refine F.ok scWalks (fun vs H Q E h => ?_) (fun cdv A outer s H vs Q E hr h => ?_)
  · obtain ⟨a, m, n, ns, f, rfl, _⟩ := h
    rfl
  · obtain ⟨a, m, n, ns, f, rfl, Wb, hn, hm, hsm, hq⟩ := h
    refine ⟨_, pss_cons (ps_asg (pv 0) (g_tup (K := K) rfl (pgs_cons (pg_name (i := 2) scWalks.nd rfl (Or.inr rfl)) (pgs_cons (pg_name (i := 3) scWalks.nd rfl (Or.inl rfl)) pgs_nil))))
      (pss_cons (ps_setLc (i := 4) (own := [("row", 6)]) (g := gName 6) (tt := tYes) (by rfl) scWalks.nd rfl rfl (sw_true rfl rfl rfl (by decide +kernel))
        (pi_range1 rfl B.range (pa_cons (pe_callB (c_len (K := K)) (by rfl) B.len PySem.boot_len (pa_cons (pv 2) pa_nil)) pa_nil))
        (blkOk_by (own := [("row", 6)]) (N := nmWalks) (sc := defScope sWalks) (by decide +kernel)) (fun _ _ _ _ _ => pg_name (i := 6) scWalks.nd rfl (Or.inr rfl)) (fun _ _ _ _ _ => pts_nil)
        (fun _ _ _ _ _ => pe_lc (own := [("place", 7)]) (g := gName 7) (tt := tYes) rfl scWalks.nd
          (pi_range1 rfl B.range (pa_cons (pe_callB (c_len (K := K)) (by rfl) B.len PySem.boot_len (pa_cons (pv 2) pa_nil)) pa_nil))
          (blkOk_by (own := [("place", 7)]) (N := nmWalks) (sc := relS (lcSc eId) (defScope sWalks)) (by decide +kernel)) (fun _ _ _ _ _ => pg_name (i := 7) scWalks.nd rfl (Or.inl rfl)) (fun _ _ _ _ _ => pts_nil)
          (fun _ _ _ _ _ => pe_callTy call_int1 (by rfl) B.int (by decide +kernel) (pa_cons (pe_cmpR op_eq (pv 6) (pv 7) (nomark _)) pa_nil))))
      (pss_cons (ps_for PassesOwn.never rfl (pi_range1 (by rfl) B.range (pa_cons (pv 1) pa_nil)) (pg_name (i := 5) scWalks.nd rfl (Or.inl rfl))
        (pss_one (ps_set (i := 4) scWalks.nd rfl (Or.inl rfl) (dM.call hr rfl (pa_cons (pv 4) (pa_cons (pv 3) pa_nil))))))
      (pss_one (ps_ret (pe_callTy (c_tup (K := K)) (by rfl) B.tuple (by decide +kernel) (pa_cons (pe_lc (own := [("row", 6)]) (g := gName 6) (tt := tYes) rfl scWalks.nd (pi_K (K := K) true (pv 4))
        (blkOk_by (own := [("row", 6)]) (N := nmWalks) (sc := defScope sWalks) (by decide +kernel)) (fun _ _ _ _ _ => pg_name (i := 6) scWalks.nd rfl (Or.inl rfl)) (fun _ _ _ _ _ => pts_nil)
        (fun _ _ _ _ _ => pe_callTy (c_tup (K := K)) (by rfl) B.tuple (by decide +kernel) (pa_cons (pv 6) pa_nil))) pa_nil)))))), ?_⟩
    obtain ⟨p, q, w1, w2, w3⟩ := Wb.ex
    have hns := Wb.len
    have hlen : ((ns.map V.str).length : Int) = (n : Int) := by simp [hns]
    refine ⟨_, rfl, a, _, rfl, w1, rfl, _, _, rfl, _, _, rfl, rfl, ?_⟩
    refine ⟨_, rfl, p, _, rfl, .inr w2, _, rfl, by omega, by omega, ?_⟩
    rw [hlen, Int.toNat_natCast]
    refine lc_obj walk_range (fun i => .lst (rowV n (powF n f 0 i))) (by omega) (fun _ _ => True.intro) ?_ ?_
    · rintro i x H1 H2 hi s1 ⟨rfl, rfl⟩ R q1
      refine ⟨rfl, _, rfl, p, _, rfl, .inr (Same.sqT s1 w2), _, rfl, by omega, by omega, ?_⟩
      rw [hlen, Int.toNat_natCast]
      refine lc_val walk_range (fun j => .int (powF n f 0 i j)) (by omega) (fun _ _ => True.intro) ?_ ?_
      · rintro j x H3 H4 hj s2 ⟨rfl, rfl⟩ R2 q2
        exact ⟨rfl, _, rfl, _, rfl, rfl, .inr ⟨_, rfl, q2 _ (Same.refl _)⟩⟩
      · intro D H3 s2 hD hl
        exact q1 D H3 s2 hD hl
    · intro D bs H1 ob
      refine ⟨_, rfl, _, rfl, by omega, by omega, ?_⟩
      rw [Int.toNat_natCast]
      refine for_range (lo := 0) (n := m) (fun i σ H2 => ∃ (D : Addr) (v5 : Option V), σ = [some (.ref a), some (.int (m : Nat)), some (.ref p), some (.ref q), some (.ref D), v5, none, none] ∧ Same H H2 ∧ TabAt true K H2 D n (powF n f i))
        ⟨D, none, rfl, ob.same, ob.tab⟩ ?_ ?_
      · rintro i σ H2 hi ⟨D, v5, rfl, s2, T2⟩
        exact ⟨_, rfl, _, rfl, D, q, true, false, n, _, f, rfl, T2, Same.tab s2 w3, by omega, .inr hsm, fun H3 D3 bs3 ob3 => ⟨D3, _, rfl, s2.trans ob3.same, ob3.tab⟩⟩
      · rintro σ H2 ⟨D, v5, rfl, s2, T2⟩
        obtain ⟨as, t1, t2, t3⟩ := T2.ex
        have hla : (as.map V.ref).length = n := by rw [List.length_map, t2]
        refine ⟨_, rfl, D, rfl, ⟨_, t1⟩, ?_⟩
        refine lc_obj (walk_K (k := true)) (fun i => .tup (rowV n (powF n f m i))) (by rw [hla]; omega) (fun H3 s => Same.sqK (k := true) s t1) ?_ ?_
        · rintro i x H3 H4 hi s3 ⟨rfl, hx⟩ R q1
          obtain ⟨b, rfl, hb⟩ := ref_at hx
          exact ⟨rfl, _, rfl, b, _, rfl, Same.sqK (k := true) s3 (t3 i b hb), fun l nl => q1 l _ (Same.new nl) nl upd_same⟩
        · intro D2 bs2 H3 ob3
          rw [hla] at ob3
          refine ⟨D2, _, rfl, SqL.of ob3.dl, fun l nl => hq _ l ?_ ?_⟩
          · exact Same.out (s2.trans ob3.same) nl
          · refine ⟨bs2, SqT.of upd_same, ob3.len, fun i b hb => SqT.of ?_⟩
            rw [upd_ne (ne_of_none (ob3.elt i b hb) nl)]
            exact ob3.elt i b hb
def spClosed (K : PySem.W.Frag) : Sp := fun vs H Q _ => ∃ (a : Addr) (m n : Nat) (ns : List Str) (f : Nat → Nat → Int), vs = [.ref a, .int ((m : Nat) : Int)] ∧ WebAt K H a ns n f ∧ n ≤ 900 ∧ m ≤ 900 ∧ Small n f ∧
  ∀ H', Same H H' → Q (.int (closedF n f m)) H'
theorem scClosed : FnScope ["web", "many"] ["web", "many"] (defScope sClosed) := ⟨rfl, rfl, rfl, by decide +kernel, rfl, by decide +kernel, by decide +kernel⟩
theorem ok_closed {f : Addr} {fd : FuncData} (F : Fun K "closed_walks" "closed_walks" sClosed f fd) (dW : Def P w K mg base "walks_of" 3 ["web", "many"] (spWalks K)) (dC : Def P w K mg base "corner_sum" 1 ["square"] (spCor K)) :
    FnOk P w K mg base CX0 4 f fd ["web", "many"] (spClosed K) := by
  refine F.ok scClosed (fun vs H Q E h => ?_) (fun cdv A outer s H vs Q E hr h => ?_)
  · obtain ⟨a, m, n, ns, f, rfl, _⟩ := h
    rfl
  · obtain ⟨a, m, n, ns, f, rfl, Wb, hn, hm, hsm, hq⟩ := h
    refine ⟨_, pss_one (ps_ret (dC.call (hr.mono (by decide)) rfl (pa_cons (dW.call hr rfl (pa_cons (pv 0) (pa_cons (pv 1) pa_nil))) pa_nil))), ?_⟩
    exact ⟨_, rfl, _, rfl, a, m, n, ns, f, rfl, Wb, hn, hm, hsm, fun H1 p s1 T1 => ⟨p, false, n, _, rfl, T1, by omega, fun H2 s2 => hq H2 (s1.trans s2)⟩⟩
end
end My

/-! ### the class KeptWeb -/
namespace My
open PySem PySem.Spec PyProof.Rows L2

theorem ne_nr : ¬ ("names" : Str) = "rows" := by decide +kernel
def flds (n r : Addr) : List (Str × V) := putF "rows" (.ref r) (putF "names" (.ref n) [])
theorem flds_names (n r : Addr) : (flds n r).lookup ("names" : Str) = some (.ref n) := by
  unfold flds
  rw [lookup_putF, if_neg ne_nr, lookup_putF, if_pos rfl]
theorem flds_rows (n r : Addr) : (flds n r).lookup ("rows" : Str) = some (.ref r) := by
  unfold flds
  rw [lookup_putF, if_pos rfl]
theorem flds_no (n r : Addr) {m : Str} (h1 : ¬ m = "rows") (h2 : ¬ m = "names") : (flds n r).lookup m = none := by
  unfold flds
  rw [lookup_putF, if_neg h1, lookup_putF, if_neg h2]
  all_goals rfl

/-- what stands outside of fp stays, and nothing goes -/
structure Off (fp : List Addr) (H H' : Hp) : Prop where
  keep : ∀ b o, H b = some o → b ∉ fp → H' b = some o
  dom : ∀ b, H' b = none → H b = none
theorem Off.refl (fp : List Addr) (H : Hp) : Off fp H H := ⟨fun _ _ e _ => e, fun _ e => e⟩
theorem Off.trans {fp : List Addr} {H H1 H2 : Hp} (a : Off fp H H1) (b : Off fp H1 H2) : Off fp H H2 := ⟨fun c o e n => b.keep c o (a.keep c o e n) n, fun c e => a.dom c (b.dom c e)⟩
theorem Off.same {fp : List Addr} {H H' : Hp} (s : Same H H') : Off fp H H' := ⟨fun b o e _ => s b o e, fun _ e => s.free e⟩
theorem Off.put {fp : List Addr} {H : Hp} {a : Addr} {o : HO} (h : a ∈ fp) : Off fp H (upd H a o) where
  keep := fun b u e n => by
    rw [upd_ne fun z => n (by rw [z]; exact h)]
    exact e
  dom := fun b e => by
    by_cases z : b = a
    · rw [z, upd_same] at e; cases e
    · rw [upd_ne z] at e; exact e
theorem Off.mono {fp fq : List Addr} {H H' : Hp} (a : Off fp H H') (h : ∀ b ∈ fp, b ∈ fq) : Off fq H H' := ⟨fun b o e n => a.keep b o e fun z => n (h b z), a.dom⟩
theorem Off.sameIf {fp : List Addr} {H0 H H' : Hp} (a : Off fp H H') (s : Same H0 H) (h : ∀ b ∈ fp, H0 b = none) : Same H0 H' := fun b o e => a.keep b o (s b o e) fun z => by
  rw [h b z] at e; cases e

/-- a kept web: the object at x, its names at n, its list of rows at r, the rows at as -/
structure Kept (C : Addr) (H : Hp) (x n r : Addr) (as : List Addr) (ns : List Str) (sz : Nat) (f : Nat → Nat → Int) : Prop where
  ins : ∃ dx, H x = some (.ins C dx (flds n r))
  nm : H n = some (.lst (ns.map V.str))
  len : ns.length = sz
  rl : H r = some (.lst (as.map V.ref))
  ln : as.length = sz
  row : ∀ (i : Nat) (a : Addr), as[i]? = some a → H a = some (.lst (rowV sz (f i)))
  nd : (x :: n :: r :: as).Nodup
  ndn : ns.Nodup
section
variable {C : Addr} {H H' : Hp} {x n r : Addr} {as : List Addr} {ns : List Str} {sz : Nat} {f g : Nat → Nat → Int}
theorem Kept.tab {K : PySem.W.Frag} (k : Kept C H x n r as ns sz f) : TabAt true K H r sz f := ⟨as, SqL.of k.rl, k.ln, fun i b hb => SqL.of (k.row i b hb)⟩
theorem Kept.congr (k : Kept C H x n r as ns sz f) (e : ∀ i j, i < sz → j < sz → f i j = g i j) : Kept C H x n r as ns sz g :=
  ⟨k.ins, k.nm, k.len, k.rl, k.ln, fun i a ha => by
    have hi : i < sz := k.ln ▸ (List.getElem?_eq_some_iff.mp ha).1
    rw [← rowV_congr fun j hj => e i j hi hj]
    exact k.row i a ha, k.nd, k.ndn⟩
theorem Kept.carry (k : Kept C H x n r as ns sz f) (h : ∀ b o, b ∈ x :: n :: r :: as → H b = some o → H' b = some o) : Kept C H' x n r as ns sz f := by
  obtain ⟨dx, e⟩ := k.ins
  exact ⟨⟨dx, h _ _ (by simp) e⟩, h _ _ (by simp) k.nm, k.len, h _ _ (by simp) k.rl, k.ln, fun i a ha => h _ _ (by simp [List.mem_of_getElem? ha]) (k.row i a ha), k.nd, k.ndn⟩
theorem Kept.same (k : Kept C H x n r as ns sz f) (s : Same H H') : Kept C H' x n r as ns sz f := k.carry fun b o _ e => s b o e
theorem Kept.off {fp : List Addr} (k : Kept C H x n r as ns sz f) (s : Off fp H H') (h : ∀ b ∈ x :: n :: r :: as, b ∉ fp) : Kept C H' x n r as ns sz f := k.carry fun b o hb e => s.keep b o e (h b hb)
theorem Kept.there (k : Kept C H x n r as ns sz f) {b : Addr} (h : b ∈ x :: n :: r :: as) : ∃ o, H b = some o := by
  simp only [List.mem_cons] at h
  rcases h with rfl | rfl | rfl | h
  · obtain ⟨dx, e⟩ := k.ins; exact ⟨_, e⟩
  · exact ⟨_, k.nm⟩
  · exact ⟨_, k.rl⟩
  · obtain ⟨i, e⟩ := List.mem_iff_getElem?.mp h
    exact ⟨_, k.row i _ e⟩
theorem Kept.apart (k : Kept C H x n r as ns sz f) {a : Addr} (h : a ∈ as) : x ≠ a ∧ n ≠ a ∧ r ≠ a ∧ x ≠ n ∧ x ≠ r ∧ n ≠ r := by
  have q := k.nd
  simp only [List.nodup_cons, List.mem_cons, not_or] at q
  exact ⟨fun z => q.1.2.2 (z ▸ h), fun z => q.2.1.2 (z ▸ h), fun z => q.2.2.1 (z ▸ h), q.1.1, q.1.2.1, q.2.1.1⟩
theorem Kept.ndas (k : Kept C H x n r as ns sz f) : as.Nodup := by
  have q := k.nd
  simp only [List.nodup_cons] at q
  exact q.2.2.2
/-- a row is written -/
theorem Kept.write (k : Kept C H x n r as ns sz f) {i : Nat} {a : Addr} (h : as[i]? = some a) (u : Nat → Int) : Kept C (upd H a (.lst (rowV sz u))) x n r as ns sz (fun j => if j = i then u else f j) := by
  obtain ⟨n1, n2, n3, _⟩ := k.apart (List.mem_of_getElem? h)
  obtain ⟨dx, e⟩ := k.ins
  refine ⟨⟨dx, by rw [upd_ne n1]; exact e⟩, by rw [upd_ne n2]; exact k.nm, k.len, by rw [upd_ne n3]; exact k.rl, k.ln, fun j b hb => ?_, k.nd, k.ndn⟩
  by_cases hj : j = i
  · subst hj
    rw [h] at hb; cases hb
    rw [upd_same, if_pos rfl]
  · have hba : b ≠ a := fun z => hj (nd_ix k.ndas hb (z ▸ h))
    rw [upd_ne hba, if_neg hj]
    exact k.row j b hb
end
/-- the text of the class -/
structure Ct (K : PySem.W.Frag) (mg : Str → Option Value) (C : Addr) : Prop where
  cl : Cls K C
  nN : NoAttr K C "names"
  nR : NoAttr K C "rows"
theorem inV_strs (z : Str) (ns : List Str) : inV (.str z) (ns.map V.str) = decide (z ∈ ns) := by
  unfold inV
  rw [List.any_map]
  induction ns with
  | nil => simp
  | cons y t ih =>
    rw [List.any_cons, ih]
    have e : ((fun y => eqV y (V.str z)) ∘ V.str) y = (y == z) := rfl
    rw [e]
    by_cases h : y = z
    · subst h; simp
    · have h2 : (y == z) = false := beq_eq_false_iff_ne.mpr h
      have h3 : ¬ z = y := fun q => h q.symm
      simp [h2, h3]
theorem flat_strs (ns : List Str) : (ns.map V.str).all flatV = true := by
  rw [List.all_map, List.all_eq_true]
  intro a _
  rfl
theorem seqIx {j n : Nat} (h : j < n) (hn : n ≤ 1000) : seqIndex? ((j : Nat) : Int) n = some j := (ixN_seq (ixN_nat h)).1
/-- the web behind a tie -/
def tieG (i j : Nat) (v : Int) (f : Nat → Nat → Int) : Nat → Nat → Int := fun a b => if a = j ∧ b = i then v else if a = i ∧ b = j then v else f a b
/-- .. behind a place put in -/
def putG (sz : Nat) (f : Nat → Nat → Int) : Nat → Nat → Int := fun i j => if i < sz ∧ j < sz then f i j else 0
/-- .. behind a place taken out -/
def takeG (p : Nat) (f : Nat → Nat → Int) : Nat → Nat → Int := fun i j => f (skip p i) (skip p j)
section
variable {P : Program} {w : World} {K : PySem.W.Frag} {mg : Str → Option Value} {base : Heap} {C : Addr}
def spInit (C : Addr) : Sp := fun vs H Q _ => ∃ (x dx : Addr) (z : Str), vs = [.ref x, .str z] ∧ H x = some (.ins C dx []) ∧
  ∀ H' n r a, Off [x] H H' → H n = none → H r = none → H a = none → Kept C H' x n r [a] [z] 1 (fun _ _ => 0) → Q .non H'
theorem scInit : FnScope ["self", "name"] ["self", "name"] (defScope mInit) := ⟨rfl, rfl, rfl, by decide +kernel, rfl, by decide +kernel, by decide +kernel⟩
theorem ok_init {f : Addr} {fd : FuncData} (F : Fun K "__init__" "KeptWeb.__init__" mInit f fd) (T : Ct K mg C) : FnOk P w K mg base CX0 1 f fd ["self", "name"] (spInit C) := by
  refine F.ok scInit (fun vs H Q E h => ?_) (fun cdv A outer s H vs Q E hr h => ?_)
  · obtain ⟨x, dx, z, rfl, _⟩ := h
    rfl
  · obtain ⟨x, dx, z, rfl, hx, hq⟩ := h
    refine ⟨_, pss_cons (ps_fld (pv 0) (pe_lst (pa_cons (pv 1) pa_nil)) rfl) (pss_one (ps_fld (pv 0) (pe_lst (pa_cons (pe_lst (pa_cons pe_int pa_nil)) pa_nil)) rfl)), ?_⟩
    have l1 : ([V.str z] : List V).length ≤ sizeLine := by show 1 ≤ sizeLine; decide
    refine ⟨_, rfl, l1, fun n hn => ⟨_, rfl, x, C, dx, _, rfl, by rw [upd_ne (ne_of_none hx hn)]; exact hx, T.cl, T.nN, (by show 0 < 1000; decide), ?_⟩⟩
    have nx : n ≠ x := (ne_of_none hx hn).symm
    refine ⟨(by show 1 ≤ sizeLine; decide), fun a na => ⟨(by show 1 ≤ sizeLine; decide), fun r nr => ⟨_, rfl, x, C, dx, putF ("names" : Str) (.ref n) [], rfl, ?_, T.cl, T.nR, (by show 1 < 1000; decide), ?_⟩⟩⟩
    · have ax : x ≠ a := by rintro rfl; rw [upd_same] at na; cases na
      have rx : x ≠ r := by rintro rfl; rw [upd_ne ax, upd_same] at nr; cases nr
      rw [upd_ne rx, upd_ne ax, upd_same]
    · have ax : x ≠ a := by rintro rfl; rw [upd_same] at na; cases na
      have an : n ≠ a := by rintro rfl; rw [upd_ne nx, upd_same] at na; cases na
      have rx : x ≠ r := by rintro rfl; rw [upd_ne ax, upd_same] at nr; cases nr
      have rn : n ≠ r := by rintro rfl; rw [upd_ne an, upd_ne nx, upd_same] at nr; cases nr
      have ra : a ≠ r := by rintro rfl; rw [upd_same] at nr; cases nr
      have ha : H a = none := by rw [upd_ne ax.symm, upd_ne an.symm] at na; exact na
      have hr' : H r = none := by rw [upd_ne ra.symm, upd_ne rx.symm, upd_ne rn.symm] at nr; exact nr
      refine hq _ n r a ?_ hn hr' ha ⟨⟨dx, upd_same⟩, ?_, rfl, ?_, rfl, fun i b hb => ?_, ?_, by simp⟩
      · refine (Off.same (Same.new hn)).trans ((Off.put (by simp)).trans ((Off.same (Same.new na)).trans ((Off.same (Same.new nr)).trans (Off.put (by simp)))))
      · rw [upd_ne nx, upd_ne rn, upd_ne an, upd_ne nx, upd_same]; rfl
      · rw [upd_ne rx.symm, upd_same]; rfl
      · have hi : i = 0 := by
          have := (List.getElem?_eq_some_iff.mp hb).1
          simpa using this
        subst hi
        obtain rfl : a = b := by simpa using hb
        rw [upd_ne ax.symm, upd_ne ra, upd_same]; rfl
      · simp only [List.nodup_cons, List.mem_cons, List.not_mem_nil, or_false, not_or, not_false_eq_true, List.nodup_nil, and_true]
        exact ⟨⟨nx.symm, rx, ax⟩, ⟨rn, an⟩, ra.symm⟩
def spNeed (C : Addr) : Sp := fun vs H Q _ => ∃ (x n r : Addr) (as : List Addr) (ns : List Str) (sz : Nat) (f : Nat → Nat → Int) (z : Str) (j : Nat), vs = [.ref x, .str z] ∧ Kept C H x n r as ns sz f ∧ ns[j]? = some z ∧
  ∀ H', Same H H' → Q (.int (j : Nat)) H'
theorem scNeed : FnScope ["self", "name"] ["self", "name"] (defScope mNeed) := ⟨rfl, rfl, rfl, by decide +kernel, rfl, by decide +kernel, by decide +kernel⟩
theorem ok_need {f : Addr} {fd : FuncData} (F : Fun K "need_name" "KeptWeb.need_name" mNeed f fd) (T : Ct K mg C) : FnOk P w K mg base CX0 1 f fd ["self", "name"] (spNeed C) := by
  refine F.ok scNeed (fun vs H Q E h => ?_) (fun cdv A outer s H vs Q E hr h => ?_)
  · obtain ⟨x, n, r, as, ns, sz, f, z, j, rfl, _⟩ := h
    rfl
  · obtain ⟨x, n, r, as, ns, sz, f, z, j, rfl, kp, hj, hq⟩ := h
    refine ⟨_, pss_cons (ps_if (pt_cmpR op_notIn_seq (pv 1) (pe_fld (pv 0) rfl) (by rfl)) pss_never pss_nil)
      (pss_one (ps_ret (pe_bm PySem.F.plainAttrs_list PySem.F.slot_list_index PySem.F.type_list_index mt_index (pe_fld (pv 0) rfl) (pa_cons (pv 1) pa_nil)))), ?_⟩
    obtain ⟨dx, hx⟩ := kp.ins
    refine ⟨_, rfl, _, rfl, x, C, dx, _, _, rfl, hx, T.cl, T.nN, flds_names n r, n, _, rfl, .inl (SqL.of kp.nm), rfl, flat_strs ns, _, rfl, ?_⟩
    rw [inV_strs, decide_eq_true (List.mem_of_getElem? hj)]
    refine iteF ?_
    have hz : (ns.map V.str)[j]? = some (.str z) := by rw [List.getElem?_map, hj]; rfl
    refine ⟨_, rfl, x, C, dx, _, _, rfl, hx, T.cl, T.nN, flds_names n r, .inl ⟨rfl, _, SqL.of kp.nm⟩, _, rfl, n, _, _, j, _, rfl, rfl, SqL.of kp.nm, rfl, flat_strs ns, hz, ?_, fun m y hm hy => ?_, hq _ (Same.refl _)⟩
    · show (z == z) = true
      exact beq_self_eq_true z
    · rw [List.getElem?_map] at hy
      cases e : ns[m]? with
      | none => rw [e] at hy; cases hy
      | some y' =>
        rw [e] at hy
        cases hy
        show (y' == z) = false
        refine beq_eq_false_iff_ne.mpr fun q => ?_
        subst q
        exact absurd (nd_ix kp.ndn e hj) (Nat.ne_of_lt hm)
def spTie (C : Addr) : Sp := fun vs H Q _ => ∃ (x n r : Addr) (as : List Addr) (ns : List Str) (sz : Nat) (f : Nat → Nat → Int) (y z : Str) (i j : Nat) (v : Int), vs = [.ref x, .str y, .str z, .int v] ∧ Kept C H x n r as ns sz f ∧
  ns[i]? = some y ∧ ns[j]? = some z ∧ ∀ H', Off (n :: r :: as) H H' → Kept C H' x n r as ns sz (tieG i j v f) → Q .non H'
abbrev nmTie : List Str := ["self", "one", "other", "weight", "first", "second"]
theorem scTie : FnScope nmTie ["self", "one", "other", "weight"] (defScope mTie) := ⟨rfl, rfl, rfl, by decide +kernel, rfl, by decide +kernel, by decide +kernel⟩
theorem ok_tie {f : Addr} {fd : FuncData} (F : Fun K "tie" "KeptWeb.tie" mTie f fd) (T : Ct K mg C) (dN : Mdef P w K mg base C "need_name" 1 ["self", "name"] (spNeed C)) :
    FnOk P w K mg base CX0 2 f fd ["self", "one", "other", "weight"] (spTie C) := by
  refine F.ok scTie (fun vs H Q E h => ?_) (fun cdv A outer s H vs Q E hr h => ?_)
  · obtain ⟨x, n, r, as, ns, sz, f, y, z, i, j, v, rfl, _⟩ := h
    rfl
  · obtain ⟨x, n, r, as, ns, sz, f, y, z, i, j, v, rfl, kp, hi, hj, hq⟩ := h
    refine ⟨_, pss_cons (ps_set (i := 4) scTie.nd rfl (Or.inl rfl) (dN.call T.cl hr (pv 0) (pa_cons (pv 1) pa_nil)))
      (pss_cons (ps_set (i := 5) scTie.nd rfl (Or.inl rfl) (dN.call T.cl hr (pv 0) (pa_cons (pv 2) pa_nil)))
      (pss_cons (ps_asg (pv 3) (pg_sub (pe_ix (ix_K (K := K) true) (pe_fld (pv 0) rfl) (pv 4) (fun _ _ => rfl)) (pv 5) set_list))
      (pss_one (ps_asg (pv 3) (pg_sub (pe_ix (ix_K (K := K) true) (pe_fld (pv 0) rfl) (pv 5) (fun _ _ => rfl)) (pv 4) set_list))))), ?_⟩
    obtain ⟨dx, hx⟩ := kp.ins
    refine ⟨_, rfl, x, dx, _, rfl, hx, flds_no n r (by decide +kernel) (by decide +kernel), _, rfl, x, n, r, as, ns, sz, f, y, i, rfl, kp, hi, fun H1 s1 => ?_⟩
    have kp1 := kp.same s1
    refine ⟨_, rfl, x, dx, _, rfl, s1 _ _ hx, flds_no n r (by decide +kernel) (by decide +kernel), _, rfl, x, n, r, as, ns, sz, f, z, j, rfl, kp1, hj, fun H2 s2 => ?_⟩
    have kp2 := kp1.same s2
    have li : i < as.length := by rw [kp.ln, ← kp.len]; exact (List.getElem?_eq_some_iff.mp hi).1
    have lj : j < as.length := by rw [kp.ln, ← kp.len]; exact (List.getElem?_eq_some_iff.mp hj).1
    have ei : as[i]? = some as[i] := List.getElem?_eq_getElem li
    have ej : as[j]? = some as[j] := List.getElem?_eq_getElem lj
    have hi' : i < sz := kp.ln ▸ li
    have hj' : j < sz := kp.ln ▸ lj
    obtain ⟨d2, hx2⟩ := kp2.ins
    have kp3 := kp2.write ei (fun b => if b = j then v else f i b)
    obtain ⟨d3, hx3⟩ := kp3.ins
    have kp4 := kp3.write ej (fun b => if b = i then v else (fun c => if c = i then fun b => if b = j then v else f i b else f c) j b)
    refine ⟨_, rfl, _, rfl, x, C, d2, _, _, rfl, hx2, T.cl, T.nR, flds_rows n r, _, rfl, r, _, i, _, rfl, rfl, SqL.of kp2.rl, ref_to ei, _, rfl, _, _, _, j, rfl, rfl, kp2.row i _ ei, by rw [rowV_len]; exact ixN_nat hj', ?_⟩
    rw [rowV_set]
    refine ⟨_, rfl, _, rfl, x, C, d3, _, _, rfl, hx3, T.cl, T.nR, flds_rows n r, _, rfl, r, _, j, _, rfl, rfl, SqL.of kp3.rl, ref_to ej, _, rfl, _, _, _, i, rfl, rfl, kp3.row j _ ej, by rw [rowV_len]; exact ixN_nat hi', ?_⟩
    rw [rowV_set]
    refine hq _ ?_ (kp4.congr fun a b _ _ => ?_)
    · have mi : as[i] ∈ n :: r :: as := by simp
      have mj : as[j] ∈ n :: r :: as := by simp
      exact (Off.same (s1.trans s2)).trans ((Off.put mi).trans (Off.put mj))
    · unfold tieG
      by_cases h1 : a = j <;> by_cases h2 : b = i <;> by_cases h3 : a = i <;> by_cases h4 : b = j <;> simp_all
end
end My

/-! ### KeptWeb: put_place, take_place, web, poly, closed -/
namespace My
open PySem PySem.Spec PyProof.Rows L2

/-- within a method: the object, its names, its list of rows, the rows, as they stand -/
structure Mid (fp : List Addr) (H0 H : Hp) (x n r : Addr) (as : List Addr) (xo no : HO) (o : Nat → List V) : Prop where
  off : Off fp H0 H
  hx : H x = some xo
  hn : H n = some no
  hr : H r = some (.lst (as.map V.ref))
  row : ∀ (j : Nat) (a : Addr), as[j]? = some a → H a = some (.lst (o j))
theorem Mid.write {fp : List Addr} {H0 H : Hp} {x n r : Addr} {as : List Addr} {xo no : HO} {o : Nat → List V} (m : Mid fp H0 H x n r as xo no o) (nd : (x :: n :: r :: as).Nodup) (hf : ∀ a ∈ as, a ∈ fp)
    {i : Nat} {a : Addr} (h : as[i]? = some a) (u : List V) : Mid fp H0 (upd H a (.lst u)) x n r as xo no (fun j => if j = i then u else o j) := by
  have ha := List.mem_of_getElem? h
  simp only [List.nodup_cons, List.mem_cons, not_or] at nd
  refine ⟨m.off.trans (Off.put (hf a ha)), by rw [upd_ne fun z => nd.1.2.2 (by rw [z]; exact ha)]; exact m.hx, by rw [upd_ne fun z => nd.2.1.2 (by rw [z]; exact ha)]; exact m.hn,
    by rw [upd_ne fun z => nd.2.2.1 (by rw [z]; exact ha)]; exact m.hr, fun j b hb => ?_⟩
  by_cases hj : j = i
  · subst hj
    rw [h] at hb; cases hb
    rw [upd_same, if_pos rfl]
  · have hba : b ≠ a := fun z => hj (nd_ix nd.2.2.2 hb (z ▸ h))
    rw [upd_ne hba, if_neg hj]
    exact m.row j b hb
theorem Mid.congr {fp : List Addr} {H0 H : Hp} {x n r : Addr} {as : List Addr} {xo no : HO} {o u : Nat → List V} (m : Mid fp H0 H x n r as xo no o) (e : ∀ j, j < as.length → o j = u j) : Mid fp H0 H x n r as xo no u :=
  ⟨m.off, m.hx, m.hn, m.hr, fun j a h => by
    rw [← e j (List.getElem?_eq_some_iff.mp h).1]
    exact m.row j a h⟩
section
variable {P : Program} {w : World} {K : PySem.W.Frag} {mg : Str → Option Value} {base : Heap} {C : Addr}
def spPut (C : Addr) : Sp := fun vs H Q _ => ∃ (x n r : Addr) (as : List Addr) (ns : List Str) (sz : Nat) (f : Nat → Nat → Int) (z : Str), vs = [.ref x, .str z] ∧ Kept C H x n r as ns sz f ∧ sz ≤ 900 ∧ z ∉ ns ∧
  ∀ H' a, Off (n :: r :: as) H H' → H a = none → Kept C H' x n r (as ++ [a]) (ns ++ [z]) (sz + 1) (putG sz f) → Q .non H'
theorem scPut : FnScope ["self", "name", "row"] ["self", "name"] (defScope mPut) := ⟨rfl, rfl, rfl, by decide +kernel, rfl, by decide +kernel, by decide +kernel⟩
theorem ok_put {f : Addr} {fd : FuncData} (F : Fun K "put_place" "KeptWeb.put_place" mPut f fd) (T : Ct K mg C) (B : Bi mg) : FnOk P w K mg base CX0 1 f fd ["self", "name"] (spPut C) := by
  refine F.ok scPut (fun vs H Q E h => ?_) (fun cdv A outer s H vs Q E hr h => ?_)
  · obtain ⟨x, n, r, as, ns, sz, f, z, rfl, _⟩ := h
    rfl
  · obtain ⟨x, n, r, as, ns, sz, f, z, rfl, kp, hsz, hz, hq⟩ := h
    refine ⟨_, pss_cons (ps_if (pt_cmpR op_in_seq (pv 1) (pe_fld (pv 0) rfl) (by rfl)) pss_never pss_nil)
      (pss_cons (ps_expr (pe_bm PySem.F.plainAttrs_list PySem.F.slot_list_append PySem.F.type_list_append mt_append (pe_fld (pv 0) rfl) (pa_cons (pv 1) pa_nil)))
      (pss_cons (ps_for PassesOwn.never rfl (pi_list (pe_fld (pv 0) rfl)) (pg_name (i := 2) scPut.nd rfl (Or.inl rfl))
        (pss_one (ps_expr (pe_bm PySem.F.plainAttrs_list PySem.F.slot_list_append PySem.F.type_list_append mt_append (pv 2) (pa_cons pe_int pa_nil)))))
      (pss_one (ps_expr (pe_bm PySem.F.plainAttrs_list PySem.F.slot_list_append PySem.F.type_list_append mt_append (pe_fld (pv 0) rfl) (pa_cons
        (pe_op op_rep (pe_lst (pa_cons pe_int pa_nil)) (pe_callB (c_len (K := K)) (by rfl) B.len PySem.boot_len (pa_cons (pe_fld (pv 0) rfl) pa_nil))) pa_nil)))))), ?_⟩
    obtain ⟨dx, hx⟩ := kp.ins
    have nd := kp.nd
    have nxr : x ≠ r ∧ x ≠ n ∧ n ≠ r := by
      simp only [List.nodup_cons, List.mem_cons, not_or] at nd
      exact ⟨nd.1.2.1, nd.1.1, nd.2.1.1⟩
    have nrow : ∀ a ∈ as, a ≠ n ∧ a ≠ r ∧ a ≠ x := fun a ha => ⟨fun z => (kp.apart ha).2.1 z.symm, fun z => (kp.apart ha).2.2.1 z.symm, fun z => (kp.apart ha).1 z.symm⟩
    have lns := kp.len
    refine ⟨_, rfl, _, rfl, x, C, dx, _, _, rfl, hx, T.cl, T.nN, flds_names n r, n, _, rfl, .inl (SqL.of kp.nm), rfl, flat_strs ns, _, rfl, ?_⟩
    rw [inV_strs, decide_eq_false hz]
    refine iteF ?_
    refine ⟨_, rfl, x, C, dx, _, _, rfl, hx, T.cl, T.nN, flds_names n r, .inl ⟨rfl, _, SqL.of kp.nm⟩, _, rfl, n, _, _, rfl, rfl, kp.nm, by rw [List.length_map]; exact small1000 (by omega), ?_⟩
    have m0 : Mid (n :: r :: as) H (upd H n (.lst (ns.map V.str ++ [V.str z]))) x n r as (.ins C dx (flds n r)) (.lst (ns.map V.str ++ [V.str z])) (fun j => if j < 0 then rowV (sz + 1) (putG sz f j) else rowV sz (f j)) :=
      ⟨Off.put (by simp), by rw [upd_ne nxr.2.1]; exact hx, upd_same, by rw [upd_ne nxr.2.2.symm]; exact kp.rl, fun j a ha => by
        rw [upd_ne (nrow a (List.mem_of_getElem? ha)).1, if_neg (Nat.not_lt_zero j)]
        exact kp.row j a ha⟩
    refine ⟨_, rfl, x, C, dx, _, _, rfl, m0.hx, T.cl, T.nR, flds_rows n r, r, rfl, ⟨_, SqL.of m0.hr⟩, ?_⟩
    refine for_list (K := K) (a := r) (xs := as.map V.ref) (fun i σ H2 => ∃ v, σ = [some (.ref x), some (.str z), v] ∧ Mid (n :: r :: as) H H2 x n r as (.ins C dx (flds n r)) (.lst (ns.map V.str ++ [V.str z])) (fun j => if j < i then rowV (sz + 1) (putG sz f j) else rowV sz (f j)))
      ⟨none, rfl, m0⟩ (fun i σ H2 _ ⟨v, _, m⟩ => SqL.of m.hr) ?_ ?_
    · rintro i y σ H2 hi ⟨v, rfl, m⟩
      obtain ⟨a, rfl, ha⟩ := ref_at hi
      have hrow := m.row i a ha
      have li : i < sz := kp.ln ▸ (List.getElem?_eq_some_iff.mp ha).1
      have e0 : (if i < i then rowV (sz + 1) (putG sz f i) else rowV sz (f i)) = rowV sz (f i) := if_neg (Nat.lt_irrefl i)
      rw [e0] at hrow
      refine ⟨_, rfl, .inl ⟨rfl, _, SqL.of hrow⟩, a, _, _, rfl, rfl, hrow, by rw [rowV_len]; exact small1000 (by omega), _, rfl, ?_⟩
      rw [rowV_snoc]
      refine (m.write nd (fun a ha => by simp [ha]) ha _).congr fun j hj => ?_
      by_cases h1 : j = i
      · subst h1
        rw [if_pos rfl, if_pos (Nat.lt_succ_self j)]
        refine rowV_congr fun k hk => ?_
        unfold putG
        by_cases h2 : k < sz
        · rw [if_pos h2, if_pos ⟨li, h2⟩]
        · rw [if_neg h2, if_neg fun q => h2 q.2]
      · rw [if_neg h1]
        by_cases h2 : j < i
        · rw [if_pos h2, if_pos (by omega)]
        · rw [if_neg h2, if_neg (by omega)]
    · rintro σ H2 ⟨v, rfl, m⟩
      rw [List.length_map] at m
      refine ⟨_, rfl, x, C, dx, _, _, rfl, m.hx, T.cl, T.nR, flds_rows n r, .inl ⟨rfl, _, SqL.of m.hr⟩, (by show 1 ≤ sizeLine; decide), fun l nl => ?_⟩
      have s1 : Same H2 (upd H2 l (.lst [.int 0])) := Same.new nl
      refine ⟨_, rfl, x, C, dx, _, _, rfl, s1 _ _ m.hx, T.cl, T.nN, flds_names n r, n, _, rfl, .inl (SqL.of (s1 _ _ m.hn)), l, _, _, rfl, rfl, upd_same, by omega, ?_, ?_, fun p np => ?_⟩
      · simp; omega
      · simp; rw [sizeLine_eq]; omega
      have el : (List.replicate ((((ns.map V.str ++ [V.str z]).length : Nat) : Int)).toNat [V.int 0]).flatten = rowV (sz + 1) (fun _ => 0) := by
        rw [Int.toNat_natCast, rowV_zeros]
        congr 1
        simp [lns]
      rw [el]
      have s2 : Same H2 (upd (upd H2 l (.lst [.int 0])) p (.lst (rowV (sz + 1) fun _ => 0))) := Same.out s1 np
      have np2 : H2 p = none := s1.free np
      have npH : H p = none := m.off.dom p np2
      refine ⟨r, _, _, rfl, rfl, s2 _ _ m.hr, by rw [List.length_map, kp.ln]; exact small1000 (by omega), ?_⟩
      have pr : r ≠ p := ne_of_none m.hr np2
      have px : x ≠ p := ne_of_none m.hx np2
      have pn : n ≠ p := ne_of_none m.hn np2
      refine hq _ p ?_ npH ⟨⟨dx, by rw [upd_ne nxr.1]; exact s2 _ _ m.hx⟩, by rw [upd_ne nxr.2.2]; rw [List.map_append]; exact s2 _ _ m.hn, by rw [List.length_append, lns]; rfl, by rw [upd_same, List.map_append]; rfl, by rw [List.length_append, kp.ln]; rfl, fun i a ha => ?_, ?_, ?_⟩
      · exact (m.off.trans (Off.same s2)).trans (Off.put (by simp))
      · by_cases hi : i < as.length
        · rw [List.getElem?_append_left hi] at ha
          rw [upd_ne (nrow a (List.mem_of_getElem? ha)).2.1]
          have q := s2 _ _ (m.row i a ha)
          rw [if_pos hi] at q
          exact q
        · rw [List.getElem?_append_right (by omega)] at ha
          have h0 : i - as.length = 0 := by
            have := (List.getElem?_eq_some_iff.mp ha).1
            simpa using this
          rw [h0] at ha
          obtain rfl : p = a := by simpa using ha
          have ei : i = sz := by have := kp.ln; omega
          rw [upd_ne pr.symm, upd_same, ei]
          congr 2
          refine rowV_congr fun k _ => ?_
          unfold putG
          rw [if_neg fun q => absurd q.1 (Nat.lt_irrefl _)]
      · have q : (x :: n :: r :: (as ++ [p])) = (x :: n :: r :: as) ++ [p] := rfl
        rw [q, List.nodup_append]
        refine ⟨nd, by simp, fun b hb c hc => ?_⟩
        rw [List.mem_singleton.mp hc]
        obtain ⟨o, ho⟩ := kp.there hb
        exact ne_of_none ho npH
      · rw [List.nodup_append]
        refine ⟨kp.ndn, by simp, fun b hb c hc => ?_⟩
        rw [List.mem_singleton.mp hc]
        rintro rfl
        exact hz hb
theorem ser {α : Type} (l : List α) (p j : Nat) : (l.eraseIdx p)[j]? = l[skip p j]? := by
  rw [List.getElem?_eraseIdx]
  unfold skip
  split <;> rfl
theorem er_map {α β : Type} (g : α → β) : ∀ (l : List α) (p : Nat), (l.map g).eraseIdx p = (l.eraseIdx p).map g
  | [], _ => rfl
  | _ :: _, 0 => rfl
  | a :: t, p + 1 => by
    show g a :: (t.map g).eraseIdx p = g a :: (t.eraseIdx p).map g
    rw [er_map g t p]
def spTake (C : Addr) : Sp := fun vs H Q _ => ∃ (x n r : Addr) (as : List Addr) (ns : List Str) (m : Nat) (f : Nat → Nat → Int) (z : Str) (p : Nat), vs = [.ref x, .str z] ∧ Kept C H x n r as ns (m + 1) f ∧ 1 ≤ m ∧ m ≤ 900 ∧ ns[p]? = some z ∧
  ∀ H', Off (n :: r :: as) H H' → Kept C H' x n r (as.eraseIdx p) (ns.eraseIdx p) m (takeG p f) → Q .non H'
abbrev nmTake : List Str := ["self", "name", "at", "row"]
theorem scTake : FnScope nmTake ["self", "name"] (defScope mTake) := ⟨rfl, rfl, rfl, by decide +kernel, rfl, by decide +kernel, by decide +kernel⟩
theorem ok_take {f : Addr} {fd : FuncData} (F : Fun K "take_place" "KeptWeb.take_place" mTake f fd) (T : Ct K mg C) (B : Bi mg) (dN : Mdef P w K mg base C "need_name" 1 ["self", "name"] (spNeed C)) :
    FnOk P w K mg base CX0 2 f fd ["self", "name"] (spTake C) := by
  refine F.ok scTake (fun vs H Q E h => ?_) (fun cdv A outer s H vs Q E hr h => ?_)
  · obtain ⟨x, n, r, as, ns, m, f, z, p, rfl, _⟩ := h
    rfl
  · obtain ⟨x, n, r, as, ns, m, f, z, p, rfl, kp0, hm1, hm2, hp, hq⟩ := h
    refine ⟨_, pss_cons (ps_set (i := 2) scTake.nd rfl (Or.inl rfl) (dN.call T.cl hr (pv 0) (pa_cons (pv 1) pa_nil)))
      (pss_cons (ps_if (pt_cmpR op_eq (pe_callB (c_len (K := K)) (by rfl) B.len PySem.boot_len (pa_cons (pe_fld (pv 0) rfl) pa_nil)) pe_int (nomark _)) pss_never pss_nil)
      (pss_cons (ps_expr (pe_bm PySem.F.plainAttrs_list PySem.F.slot_list_pop PySem.F.type_list_pop mt_popAt (pe_fld (pv 0) rfl) (pa_cons (pv 2) pa_nil)))
      (pss_cons (ps_expr (pe_bm PySem.F.plainAttrs_list PySem.F.slot_list_pop PySem.F.type_list_pop mt_popAt (pe_fld (pv 0) rfl) (pa_cons (pv 2) pa_nil)))
      (pss_one (ps_for PassesOwn.never rfl (pi_list (pe_fld (pv 0) rfl)) (pg_name (i := 3) scTake.nd rfl (Or.inl rfl))
        (pss_one (ps_expr (pe_bm PySem.F.plainAttrs_list PySem.F.slot_list_pop PySem.F.type_list_pop mt_popAt (pv 3) (pa_cons (pv 2) pa_nil)))))))))
      , ?_⟩
    obtain ⟨dx, hx0⟩ := kp0.ins
    have lns := kp0.len
    have pl : p < m + 1 := lns ▸ (List.getElem?_eq_some_iff.mp hp).1
    refine ⟨_, rfl, x, dx, _, rfl, hx0, flds_no n r (by decide +kernel) (by decide +kernel), _, rfl, x, n, r, as, ns, m + 1, f, z, p, rfl, kp0, hp, fun H1 s1 => ?_⟩
    have kp := kp0.same s1
    have hx := s1 _ _ hx0
    have nd := kp.nd
    have nxr : x ≠ r ∧ x ≠ n ∧ n ≠ r := by
      simp only [List.nodup_cons, List.mem_cons, not_or] at nd
      exact ⟨nd.1.2.1, nd.1.1, nd.2.1.1⟩
    have nrow : ∀ a ∈ as, a ≠ n ∧ a ≠ r ∧ a ≠ x := fun a ha => ⟨fun z => (kp.apart ha).2.1 z.symm, fun z => (kp.apart ha).2.2.1 z.symm, fun z => (kp.apart ha).1 z.symm⟩
    refine ⟨_, rfl, x, C, dx, _, _, rfl, hx, T.cl, T.nN, flds_names n r, n, _, rfl, .inl (SqL.of kp.nm), rfl, _, rfl, ?_⟩
    have en : decide (V.int (((ns.map V.str).length : Nat) : Int) = V.int 1) = false := decide_eq_false fun q => by
      have q' := V.int.inj q
      rw [List.length_map] at q'
      omega
    rw [en]
    refine iteF ?_
    have h1 : (ns.map V.str)[p]? = some (.str z) := by rw [List.getElem?_map, hp]; rfl
    refine ⟨_, rfl, x, C, dx, _, _, rfl, hx, T.cl, T.nN, flds_names n r, .inl ⟨rfl, _, SqL.of kp.nm⟩, _, rfl, n, _, _, p, _, rfl, rfl, kp.nm, by omega, by omega, by rw [List.length_map]; exact seqIx (by omega) (by omega), h1, ?_⟩
    have la : p < as.length := by rw [kp.ln]; exact pl
    have h2 : (as.map V.ref)[p]? = some (.ref as[p]) := ref_to (List.getElem?_eq_getElem la)
    have hx2 : (upd H1 n (.lst ((ns.map V.str).eraseIdx p))) x = some (.ins C dx (flds n r)) := by rw [upd_ne nxr.2.1]; exact hx
    have hr2 : (upd H1 n (.lst ((ns.map V.str).eraseIdx p))) r = some (.lst (as.map V.ref)) := by rw [upd_ne nxr.2.2.symm]; exact kp.rl
    refine ⟨_, rfl, x, C, dx, _, _, rfl, hx2, T.cl, T.nR, flds_rows n r, .inl ⟨rfl, _, SqL.of hr2⟩, _, rfl, r, _, _, p, _, rfl, rfl, hr2, by omega, by omega, by rw [List.length_map, kp.ln]; exact seqIx pl (by omega), h2, ?_⟩
    have er : (as.map V.ref).eraseIdx p = (as.eraseIdx p).map V.ref := er_map V.ref as p
    have es : (ns.map V.str).eraseIdx p = (ns.eraseIdx p).map V.str := er_map V.str ns p
    rw [er, es]
    have lna : (as.eraseIdx p).length = m := by rw [List.length_eraseIdx, if_pos la, kp.ln]; rfl
    have mem' : ∀ a ∈ as.eraseIdx p, a ∈ as := fun a ha => List.mem_of_mem_eraseIdx ha
    have nd' : (x :: n :: r :: as.eraseIdx p).Nodup := List.Nodup.sublist (((List.eraseIdx_sublist as p).cons_cons r).cons_cons n |>.cons_cons x) nd
    have m0 : Mid (n :: r :: as) H (upd (upd H1 n (.lst ((ns.eraseIdx p).map V.str))) r (.lst ((as.eraseIdx p).map V.ref))) x n r (as.eraseIdx p) (.ins C dx (flds n r)) (.lst ((ns.eraseIdx p).map V.str))
        (fun j => if j < 0 then rowV m (takeG p f j) else rowV (m + 1) (f (skip p j))) := by
      refine ⟨(Off.same s1).trans ((Off.put (by simp)).trans (Off.put (by simp))), by rw [upd_ne nxr.1, upd_ne nxr.2.1]; exact hx, by rw [upd_ne nxr.2.2, upd_same], upd_same, fun j a ha => ?_⟩
      have na := nrow a (mem' a (List.mem_of_getElem? ha))
      rw [upd_ne na.2.1, upd_ne na.1, if_neg (Nat.not_lt_zero j)]
      rw [ser] at ha
      exact kp.row _ a ha
    refine ⟨_, rfl, x, C, dx, _, _, rfl, m0.hx, T.cl, T.nR, flds_rows n r, r, rfl, ⟨_, SqL.of m0.hr⟩, ?_⟩
    refine for_list (K := K) (a := r) (xs := (as.eraseIdx p).map V.ref) (fun i σ H2 => ∃ v, σ = [some (.ref x), some (.str z), some (.int (p : Nat)), v] ∧ Mid (n :: r :: as) H H2 x n r (as.eraseIdx p) (.ins C dx (flds n r)) (.lst ((ns.eraseIdx p).map V.str))
      (fun j => if j < i then rowV m (takeG p f j) else rowV (m + 1) (f (skip p j)))) ⟨none, rfl, m0⟩ (fun i σ H2 _ ⟨v, _, mm⟩ => SqL.of mm.hr) ?_ ?_
    · rintro i y σ H2 hi ⟨v, rfl, mm⟩
      obtain ⟨a, rfl, ha⟩ := ref_at hi
      have hrow := mm.row i a ha
      have e0 : (if i < i then rowV m (takeG p f i) else rowV (m + 1) (f (skip p i))) = rowV (m + 1) (f (skip p i)) := if_neg (Nat.lt_irrefl i)
      rw [e0] at hrow
      refine ⟨_, rfl, .inl ⟨rfl, _, SqL.of hrow⟩, _, rfl, a, _, _, p, _, rfl, rfl, hrow, by omega, by omega, by rw [rowV_len]; exact seqIx pl (by omega), rowV_at pl, _, rfl, ?_⟩
      rw [rowV_erase _ (by omega)]
      refine (mm.write nd' (fun a ha => by simp [mem' a ha]) ha _).congr fun j hj => ?_
      by_cases h1 : j = i
      · subst h1
        rw [if_pos rfl, if_pos (Nat.lt_succ_self j)]
        rfl
      · rw [if_neg h1]
        by_cases h2 : j < i
        · rw [if_pos h2, if_pos (by omega)]
        · rw [if_neg h2, if_neg (by omega)]
    · rintro σ H2 ⟨v, rfl, mm⟩
      rw [List.length_map] at mm
      refine hq H2 mm.off ⟨⟨dx, mm.hx⟩, mm.hn, by rw [List.length_eraseIdx, if_pos (by omega), lns]; rfl, mm.hr, lna, fun i a ha => ?_, nd', List.Nodup.sublist (List.eraseIdx_sublist ns p) kp.ndn⟩
      have q := mm.row i a ha
      rw [if_pos (List.getElem?_eq_some_iff.mp ha).1] at q
      exact q
def spWeb (K : PySem.W.Frag) (C : Addr) : Sp := fun vs H Q _ => ∃ (x n r : Addr) (as : List Addr) (ns : List Str) (sz : Nat) (f : Nat → Nat → Int), vs = [.ref x] ∧ Kept C H x n r as ns sz f ∧ sz ≤ 900 ∧
  ∀ H' p, Same H H' → WebAt K H' p ns sz f → Q (.ref p) H'
theorem scWeb : FnScope ["self", "row"] ["self"] (defScope mWeb) := ⟨rfl, rfl, rfl, by decide +kernel, rfl, by decide +kernel, by decide +kernel⟩
theorem ok_web {f : Addr} {fd : FuncData} (F : Fun K "web" "KeptWeb.web" mWeb f fd) (T : Ct K mg C) (B : Bi mg) : FnOk P w K mg base CX0 1 f fd ["self"] (spWeb K C) := by
  refine F.ok scWeb (fun vs H Q E h => ?_) (fun cdv A outer s H vs Q E hr h => ?_)
  · obtain ⟨x, n, r, as, ns, sz, f, rfl, _⟩ := h
    rfl
  · obtain ⟨x, n, r, as, ns, sz, f, rfl, kp, hsz, hq⟩ := h
    refine ⟨_, pss_one (ps_ret (pe_tup (pa_cons (pe_callTy (c_tup (K := K)) (by rfl) B.tuple (by decide +kernel) (pa_cons (pe_fld (pv 0) rfl) pa_nil))
      (pa_cons (pe_callTy (c_tup (K := K)) (by rfl) B.tuple (by decide +kernel) (pa_cons (pe_lc (own := [("row", 1)]) (g := gName 1) (tt := tYes) rfl scWeb.nd (pi_K (K := K) true (pe_fld (pv 0) rfl))
        (blkOk_by (own := [("row", 1)]) (N := ["self", "row"]) (sc := defScope mWeb) (by decide +kernel)) (fun _ _ _ _ _ => pg_name (i := 1) scWeb.nd rfl (Or.inl rfl)) (fun _ _ _ _ _ => pts_nil)
        (fun _ _ _ _ _ => pe_callTy (c_tup (K := K)) (by rfl) B.tuple (by decide +kernel) (pa_cons (pv 1) pa_nil))) pa_nil)) pa_nil)))), ?_⟩
    obtain ⟨dx, hx⟩ := kp.ins
    refine ⟨_, rfl, x, C, dx, _, _, rfl, hx, T.cl, T.nN, flds_names n r, n, _, rfl, SqL.of kp.nm, fun t nt => ?_⟩
    have s1 : Same H (upd H t (.tup (ns.map V.str))) := Same.new nt
    refine ⟨_, rfl, x, C, dx, _, _, rfl, s1 _ _ hx, T.cl, T.nR, flds_rows n r, r, rfl, ⟨_, SqL.of (s1 _ _ kp.rl)⟩, ?_⟩
    have hla : (as.map V.ref).length = sz := by rw [List.length_map, kp.ln]
    refine lc_obj (walk_K (k := true)) (fun i => .tup (rowV sz (f i))) (by rw [hla]; omega) (fun H3 s => SqL.of (s _ _ (s1 _ _ kp.rl))) ?_ ?_
    · rintro i y H3 H4 hi s3 ⟨rfl, hy⟩ R q1
      obtain ⟨b, rfl, hb⟩ := ref_at hy
      exact ⟨rfl, _, rfl, b, _, rfl, SqL.of (s3 _ _ (s1 _ _ (kp.row i b hb))), fun l nl => q1 l _ (Same.new nl) nl upd_same⟩
    · intro D bs H3 ob
      rw [hla] at ob
      refine ⟨D, _, rfl, SqL.of ob.dl, fun l nl => ⟨(by show 2 ≤ sizeLine; decide), fun u nu => ?_⟩⟩
      have s4 : Same H3 (upd H3 l (.tup (bs.map V.ref))) := Same.new nl
      have s5 : Same (upd H3 l (.tup (bs.map V.ref))) (upd (upd H3 l (.tup (bs.map V.ref))) u (.tup [.ref t, .ref l])) := Same.new nu
      refine hq _ u ((s1.trans ob.same).trans (s4.trans s5)) ⟨⟨t, l, SqT.of upd_same, SqT.of (s5 _ _ (s4 _ _ (ob.same _ _ upd_same))), ⟨bs, SqT.of (s5 _ _ upd_same), ob.len, fun i b hb => SqT.of (s5 _ _ (s4 _ _ (ob.elt i b hb)))⟩⟩, kp.len⟩
def spMPoly (K : PySem.W.Frag) (C : Addr) : Sp := fun vs H Q _ => ∃ (x n r : Addr) (as : List Addr) (ns : List Str) (sz : Nat) (f : Nat → Nat → Int), vs = [.ref x] ∧ Kept C H x n r as ns sz f ∧ sz ≤ 900 ∧ Small sz f ∧
  ∀ H' p, Same H H' → PolyAt K H' p (polyF sz f) → Q (.ref p) H'
theorem scMPoly : FnScope ["self"] ["self"] (defScope mPoly) := ⟨rfl, rfl, rfl, by decide +kernel, rfl, by decide +kernel, by decide +kernel⟩
theorem ok_mpoly {f : Addr} {fd : FuncData} (F : Fun K "poly" "KeptWeb.poly" mPoly f fd) (T : Ct K mg C) (dP : Def P w K mg base "poly_of" 4 ["table"] (spPoly K)) : FnOk P w K mg base CX0 5 f fd ["self"] (spMPoly K C) := by
  refine F.ok scMPoly (fun vs H Q E h => ?_) (fun cdv A outer s H vs Q E hr h => ?_)
  · obtain ⟨x, n, r, as, ns, sz, f, rfl, _⟩ := h
    rfl
  · obtain ⟨x, n, r, as, ns, sz, f, rfl, kp, hsz, hsm, hq⟩ := h
    refine ⟨_, pss_one (ps_ret (dP.call hr rfl (pa_cons (pe_fld (pv 0) rfl) pa_nil))), ?_⟩
    obtain ⟨dx, hx⟩ := kp.ins
    exact ⟨_, rfl, x, C, dx, _, _, rfl, hx, T.cl, T.nR, flds_rows n r, r, true, sz, f, rfl, kp.tab, hsz, hsm, hq⟩
def spMClosed (C : Addr) : Sp := fun vs H Q _ => ∃ (x n r : Addr) (as : List Addr) (ns : List Str) (sz : Nat) (f : Nat → Nat → Int) (m : Nat), vs = [.ref x, .int ((m : Nat) : Int)] ∧ Kept C H x n r as ns sz f ∧ sz ≤ 900 ∧ m ≤ 900 ∧ Small sz f ∧
  ∀ H', Same H H' → Q (.int (closedF sz f m)) H'
theorem scMClosed : FnScope ["self", "many"] ["self", "many"] (defScope mClosed) := ⟨rfl, rfl, rfl, by decide +kernel, rfl, by decide +kernel, by decide +kernel⟩
theorem ok_mclosed {f : Addr} {fd : FuncData} (F : Fun K "closed" "KeptWeb.closed" mClosed f fd) (T : Ct K mg C) (dC : Def P w K mg base "closed_walks" 4 ["web", "many"] (spClosed K)) (dW : Mdef P w K mg base C "web" 1 ["self"] (spWeb K C)) :
    FnOk P w K mg base CX0 5 f fd ["self", "many"] (spMClosed C) := by
  refine F.ok scMClosed (fun vs H Q E h => ?_) (fun cdv A outer s H vs Q E hr h => ?_)
  · obtain ⟨x, n, r, as, ns, sz, f, m, rfl, _⟩ := h
    rfl
  · obtain ⟨x, n, r, as, ns, sz, f, m, rfl, kp, hsz, hm, hsm, hq⟩ := h
    refine ⟨_, pss_one (ps_ret (dC.call hr rfl (pa_cons (dW.call0 T.cl (hr.mono (by decide)) (pv 0)) (pa_cons (pv 1) pa_nil)))), ?_⟩
    obtain ⟨dx, hx⟩ := kp.ins
    exact ⟨_, rfl, x, dx, _, rfl, hx, flds_no n r (by decide +kernel) (by decide +kernel), x, n, r, as, ns, sz, f, rfl, kp, hsz, fun H1 p s1 W1 => ⟨_, rfl, p, m, sz, ns, f, rfl, W1, hsz, hm, hsm, fun H2 s2 => hq H2 (s1.trans s2)⟩⟩
end
end My

/-! ### _law_number, _law_names -/
namespace My
open PySem PySem.Spec PyProof.Rows L2

/-! names, glued -/
def glue (z : Str) (p c : Nat) : Str := (cutS z none (some (p : Int)) ++ ⟨#[c]⟩) ++ cutS z (some (p : Int)) none
theorem tl_glue (z : Str) (p c : Nat) : (glue z p c).cps.toList = z.cps.toList.take p ++ [c] ++ z.cps.toList.drop p := by
  have hl : z.length = z.cps.toList.length := (Array.length_toList).symm
  have e1 : (cutS z none (some (p : Int))).cps.toList = z.cps.toList.take p := by
    show ((z.cps.toList.drop (HT.sIx z.length 0 none)).take (HT.sIx z.length z.length (some (p : Int)) - HT.sIx z.length 0 none)) = _
    rw [HT.sIx_none, HT.sIx_nat, List.drop_zero, Nat.sub_zero, hl, ← List.take_eq_take_min]
  have e2 : (cutS z (some (p : Int)) none).cps.toList = z.cps.toList.drop p := by
    show ((z.cps.toList.drop (HT.sIx z.length 0 (some (p : Int)))).take (HT.sIx z.length z.length none - HT.sIx z.length 0 (some (p : Int)))) = _
    rw [HT.sIx_none, HT.sIx_nat, hl]
    by_cases h : p ≤ z.cps.toList.length
    · rw [Nat.min_eq_left h, List.take_of_length_le (by rw [List.length_drop]; omega)]
    · rw [Nat.min_eq_right (by omega), List.drop_eq_nil_of_le (Nat.le_refl _), List.drop_eq_nil_of_le (by omega)]
      simp
  unfold glue
  rw [Str.cps_append, Str.cps_append, Array.toList_append, Array.toList_append, e1, e2]
theorem glue_inj {z y : Str} {p c d : Nat} (h : glue z p c = glue y p d) : c = d := by
  have e : z.cps.toList.take p ++ [c] ++ z.cps.toList.drop p = y.cps.toList.take p ++ [d] ++ y.cps.toList.drop p := by
    rw [← tl_glue, ← tl_glue, h]
  have l : z.cps.toList.length = y.cps.toList.length := by
    have q := congrArg List.length e
    simp only [List.length_append, List.length_take, List.length_drop, List.length_cons, List.length_nil] at q
    omega
  have g : ∀ (L : List Nat) (k : Nat), (L.take p ++ [k] ++ L.drop p)[min p L.length]? = some k := fun L k => by
    rw [List.append_assoc, List.getElem?_append_right (by rw [List.length_take]; omega), List.length_take, Nat.sub_self]
    rfl
  have a := g z.cps.toList c
  rw [e, l, g y.cps.toList d] at a
  exact (Option.some.inj a).symm
theorem glue_ok {z : Str} {p c : Nat} (h : PyData.strOk z = true) (hc : c < 200) : PyData.strOk (glue z p c) = true := by
  unfold PyData.strOk at *
  rw [← Array.all_toList, List.all_eq_true] at *
  rw [tl_glue]
  intro x hx
  rcases List.mem_append.mp hx with hx | hx
  · rcases List.mem_append.mp hx with hx | hx
    · exact h x (List.mem_of_mem_take hx)
    · rw [List.mem_singleton.mp hx]
      exact decide_eq_true (by omega)
  · exact h x (List.mem_of_mem_drop hx)
def abc : Str := "abcdefghijklmnopqrstuvwxyz"
theorem abc_at : ∀ j : Nat, j < 26 → abc.cps.toList[j]? = some (97 + j) := by decide +kernel
theorem abc_len : abc.length = 26 := by decide +kernel
def someN : List Str := ["", "", "one", "zz", "b", "tie", "place", "lengthy"]
theorem someN_len : ∀ z ∈ someN, z.length ≤ 7 := by decide +kernel
theorem someN_ok : ∀ z ∈ someN, PyData.strOk z = true := by decide +kernel
theorem someN_at {j : Nat} (h : j < 8) : ∃ z, (someN.map V.str)[j]? = some (.str z) ∧ z.length ≤ 7 ∧ PyData.strOk z = true := by
  have hl : j < someN.length := h
  refine ⟨someN[j], ?_, someN_len _ (List.getElem_mem hl), someN_ok _ (List.getElem_mem hl)⟩
  rw [List.getElem?_map, List.getElem?_eq_getElem hl]; rfl
/-- the letters' places are unlike -/
theorem five_mod {a i j : Int} (h0 : 0 ≤ i) (h1 : i < 9) (h2 : 0 ≤ j) (h3 : j < 9) (h : (a + 5 * i) % 26 = (a + 5 * j) % 26) : i = j := by omega
section
variable {P : Program} {w : World} {K : PySem.W.Frag} {mg : Str → Option Value} {base : Heap}
def spNum (K : PySem.W.Frag) : Sp := fun vs H Q _ => ∃ (a : Addr) (ns : List Int) (k : Int), vs = [.ref a, .int k] ∧ SqL K H a (ns.map V.int) ∧ ns.length ≤ 63 ∧ 0 ≤ k ∧
  ∀ H' m, Same H H' → 0 ≤ m → m < 1000000 → Q (.int m) H'
abbrev nmNum : List Str := ["script", "k", "cells", "size", "cell", "turn", "step", "seed"]
theorem scNum : FnScope nmNum ["script", "k"] (defScope sNum) := ⟨rfl, rfl, rfl, by decide +kernel, rfl, by decide +kernel, by decide +kernel⟩
theorem ok_num {f : Addr} {fd : FuncData} (F : Fun K "_law_number" "_law_number" sNum f fd) (B : Bi mg) : FnOk P w K mg base CX0 1 f fd ["script", "k"] (spNum K) := by
  refine F.ok scNum (fun vs H Q E h => ?_) (fun cdv A outer s H vs Q E hr h => ?_)
  · obtain ⟨a, ns, k, rfl, _⟩ := h
    rfl
  · obtain ⟨a, ns, k, rfl, hS, hl, hk, hq⟩ := h
    refine ⟨_, pss_cons (ps_set (i := 2) scNum.nd rfl (Or.inl rfl) (pe_op op_cat (pe_callTy (c_lst (K := K)) (by rfl) B.list (by decide +kernel) (pa_cons (pv 0) pa_nil)) (pe_lst (pa_cons pe_int pa_nil))))
      (pss_cons (ps_set (i := 3) scNum.nd rfl (Or.inl rfl) (pe_callB (call_max2 rfl) (by rfl) B.max (by decide +kernel) (pa_cons pe_int (pa_cons (pe_callB (c_len (K := K)) (by rfl) B.len PySem.boot_len (pa_cons (pv 0) pa_nil)) pa_nil))))
      (pss_cons (ps_set (i := 4) scNum.nd rfl (Or.inl rfl) (pe_ix (ix_K (K := K) true) (pv 2) (pe_op op_mod (pv 1) (pv 3)) (fun _ _ => rfl)))
      (pss_cons (ps_set (i := 5) scNum.nd rfl (Or.inl rfl) (pe_op op_fdiv (pv 1) (pv 3)))
      (pss_cons (ps_if (pt_cmpR op_ge (pv 4) (pe_op op_pow pe_int pe_int) (nomark _))
        (pss_cons (ps_for PassesOwn.never rfl (pi_range1 (by rfl) B.range (pa_cons (pe_callB (call_min2 rfl) (by rfl) B.min (by decide +kernel) (pa_cons (pv 5) (pa_cons pe_int pa_nil))) pa_nil)) (pg_name (i := 6) scNum.nd rfl (Or.inl rfl))
          (pss_one (ps_set (i := 4) scNum.nd rfl (Or.inl rfl) (pe_op op_fdiv (pv 4) pe_int))))
        (pss_one (ps_ret (pe_op op_mod (pv 4) pe_int)))) pss_nil)
      (pss_cons (ps_set (i := 7) scNum.nd rfl (Or.inl rfl) (pe_op op_mod (pe_op op_mul (pe_op op_add (pe_op op_add (pe_op op_add (pe_op op_mod (pv 4) pe_int) pe_int) (pe_op op_mul pe_int (pv 5))) (pe_op op_mul pe_int (pv 1))) pe_int) pe_int))
      (pss_cons (ps_set (i := 7) scNum.nd rfl (Or.inl rfl) (pe_op op_mod (pe_op op_add (pe_op op_add (pe_op op_mul (pv 7) (pv 7)) (pe_op op_mul pe_int (pv 5))) (pe_op op_mul pe_int (pv 1))) pe_int))
      (pss_one (ps_ret (pe_op op_mod (pe_op op_fdiv (pe_op op_mod (pe_op op_mul (pv 7) pe_int) pe_int) pe_int) pe_int))))))))), ?_⟩
    have l1 : ([V.int 0] : List V).length ≤ sizeLine := by show 1 ≤ sizeLine; decide
    refine ⟨_, rfl, a, _, rfl, .inl hS, fun l nl => ⟨l1, fun p np => ?_⟩⟩
    have s1 : Same H (upd H l (.lst (ns.map V.int))) := Same.new nl
    have s2 : Same H (upd (upd H l (.lst (ns.map V.int))) p (.lst [.int 0])) := Same.out s1 np
    have pl : l ≠ p := by rintro rfl; rw [upd_same] at np; cases np
    refine ⟨l, p, _, _, rfl, rfl, by rw [upd_ne pl, upd_same], upd_same, by rw [List.length_map, sizeLine_eq]; show ns.length + 1 ≤ _; omega, fun c nc => ?_⟩
    have s3 : Same H (upd (upd (upd H l (.lst (ns.map V.int))) p (.lst [.int 0])) c (.lst (ns.map V.int ++ [.int 0]))) := Same.out s2 nc
    refine ⟨_, rfl, a, _, rfl, .inl (s3.seq hS), 1, _, rfl, ?_⟩
    obtain ⟨sz, e, z1, z2, z3⟩ : ∃ sz : Int, (if ((((ns.map V.int).length : Nat) : Int)) > 1 then (((ns.map V.int).length : Nat) : Int) else 1) = sz ∧ 1 ≤ sz ∧ sz ≤ ns.length + 1 ∧ sz ≤ 64 := by
      rw [List.length_map]
      refine ⟨_, rfl, ?_, ?_, ?_⟩ <;> split <;> omega
    rw [e]
    have kb : 0 ≤ k % sz := Int.emod_nonneg _ (by omega)
    have kc : k % sz < sz := Int.emod_lt_of_pos _ (by omega)
    have tb : 0 ≤ k / sz := Int.ediv_nonneg hk (by omega)
    obtain ⟨j, ej⟩ : ∃ j : Nat, k % sz = (j : Int) := ⟨(k % sz).toNat, (Int.toNat_of_nonneg kb).symm⟩
    obtain ⟨c0, hc0⟩ : ∃ c0 : Int, (ns.map V.int ++ [V.int 0])[j]? = some (.int c0) := by
      have hm : ns.map V.int ++ [V.int 0] = (ns ++ [0]).map V.int := by rw [List.map_append]; rfl
      have hj : j < (ns ++ [(0 : Int)]).length := by rw [List.length_append]; show j < ns.length + 1; omega
      rw [hm]
      exact ⟨(ns ++ [0])[j], by rw [List.getElem?_map, List.getElem?_eq_getElem hj]; rfl⟩
    refine ⟨_, rfl, _, rfl, _, rfl, _, _, rfl, rfl, (by show 0 < sz; omega), c, _, j, _, rfl, congrArg V.int ej, SqL.of upd_same, hc0, ?_⟩
    refine ⟨_, rfl, _, rfl, _, _, rfl, rfl, ⟨by omega, by omega⟩, ?_⟩
    refine ⟨_, rfl, 10, 18, rfl, rfl, ⟨by decide, by decide, by decide⟩, _, _, rfl, rfl, _, rfl, ?_⟩
    refine ite2 (fun _ => ?_) (fun _ => ?_)
    · refine ⟨_, rfl, _, _, rfl, ?_⟩
      obtain ⟨t, et, t1, t2⟩ : ∃ t : Int, (if (60 : Int) < k / sz then 60 else k / sz) = t ∧ 0 ≤ t ∧ t ≤ 60 := by
        refine ⟨_, rfl, ?_, ?_⟩ <;> split <;> omega
      rw [et]
      refine ⟨_, rfl, by omega, by omega, ?_⟩
      refine for_range (lo := 0) (n := t.toNat) (fun i σ H2 => ∃ (cc : Int) (v6 : Option V), σ = [some (.ref a), some (.int k), some (.ref c), some (.int sz), some (.int cc), some (.int (k / sz)), v6, none] ∧ Same H H2) ⟨c0, none, rfl, s3⟩ ?_ ?_
      · rintro i σ H2 hi ⟨cc, v6, rfl, s4⟩
        exact ⟨_, rfl, _, _, rfl, rfl, ⟨by decide, by decide⟩, _, _, rfl, s4⟩
      · rintro σ H2 ⟨cc, v6, rfl, s4⟩
        exact ⟨_, rfl, _, _, rfl, rfl, (by show (0 : Int) < 1000000; decide), hq _ _ s4 (Int.emod_nonneg _ (by decide)) (Int.emod_lt_of_pos _ (by decide))⟩
    · have hS1 : ∀ x : Int, 0 ≤ x % 2147483647 ∧ x % 2147483647 < 2147483647 := fun x => ⟨Int.emod_nonneg _ (by decide), Int.emod_lt_of_pos _ (by decide)⟩
      refine ⟨_, rfl, _, _, rfl, rfl, (by show (0 : Int) < 2147483629; decide), _, _, rfl, rfl, _, rfl, _, _, rfl, rfl, .inl ⟨by decide, by decide⟩, _, _, rfl, rfl, _, rfl, _, _, rfl, rfl, .inl ⟨by decide, by decide⟩, _, _, rfl, rfl, _, _, rfl, rfl, .inr ⟨by decide, by decide⟩, _, _, rfl, rfl, (by show (0 : Int) < 2147483647; decide), ?_⟩
      refine ⟨_, rfl, _, rfl, _, _, rfl, rfl, .inl ?_, _, rfl, _, _, rfl, rfl, .inl ⟨by decide, by decide⟩, _, _, rfl, rfl, _, rfl, _, _, rfl, rfl, .inl ⟨by decide, by decide⟩, _, _, rfl, rfl, _, _, rfl, rfl, (by show (0 : Int) < 2147483587; decide), ?_⟩
      · have q := hS1 ((c0 % 2147483629 + 977 + 104729 * (k / sz) + 15485863 * k) * 48271)
        constructor <;> omega
      refine ⟨_, rfl, _, _, rfl, rfl, .inr ⟨by decide, by decide⟩, _, _, rfl, rfl, (by show (0 : Int) < 2147483563; decide), _, _, rfl, rfl, ⟨by decide, by decide⟩, _, _, rfl, rfl, (by show (0 : Int) < 1000000; decide), hq _ _ s3 (Int.emod_nonneg _ (by decide)) (Int.emod_lt_of_pos _ (by decide))⟩
def spNames (K : PySem.W.Frag) : Sp := fun vs H Q _ => ∃ (a : Addr) (ns : List Int) (st : Int) (m : Nat), vs = [.ref a, .int st, .int ((m : Nat) : Int)] ∧ SqL K H a (ns.map V.int) ∧ ns.length ≤ 63 ∧ 0 ≤ st ∧ m ≤ 9 ∧
  ∀ (H' : Hp) (p : Addr) (zs : List Str), Same H H' → H' p = some (.tup (zs.map V.str)) → zs.length = m → zs.Nodup → (∀ z ∈ zs, PyData.strOk z = true) → Q (.ref p) H'
abbrev nmNames : List Str := ["script", "start", "many", "letters", "some", "first", "at", "found", "k", "name"]
theorem scNames : FnScope nmNames ["script", "start", "many"] (defScope sNames) := ⟨rfl, rfl, rfl, by decide +kernel, rfl, by decide +kernel, by decide +kernel⟩
theorem ok_names {f : Addr} {fd : FuncData} (F : Fun K "_law_names" "_law_names" sNames f fd) (B : Bi mg) (dN : Def P w K mg base "_law_number" 1 ["script", "k"] (spNum K)) : FnOk P w K mg base CX0 2 f fd ["script", "start", "many"] (spNames K) := by
  refine F.ok scNames (fun vs H Q E h => ?_) (fun cdv A outer s H vs Q E hr h => ?_)
  · obtain ⟨a, ns, st, m, rfl, _⟩ := h
    rfl
  · obtain ⟨a, ns, st, m, rfl, hS, hl, hst, hm, hq⟩ := h
    refine ⟨_, pss_cons (ps_set (i := 3) scNames.nd rfl (Or.inl rfl) pe_str)
      (pss_cons (ps_set (i := 4) scNames.nd rfl (Or.inl rfl) (pe_lst (pa_cons pe_str (pa_cons pe_str (pa_cons pe_str (pa_cons pe_str (pa_cons pe_str (pa_cons pe_str (pa_cons pe_str (pa_cons pe_str pa_nil))))))))))
      (pss_cons (ps_set (i := 5) scNames.nd rfl (Or.inl rfl) (dN.call hr rfl (pa_cons (pv 0) (pa_cons (pv 1) pa_nil))))
      (pss_cons (ps_set (i := 6) scNames.nd rfl (Or.inl rfl) (pe_op op_mod (pe_op op_fdiv (pv 5) pe_int) pe_int))
      (pss_cons (ps_set (i := 7) scNames.nd rfl (Or.inl rfl) (pe_lst pa_nil))
      (pss_cons (ps_for PassesOwn.never rfl (pi_range1 (by rfl) B.range (pa_cons (pv 2) pa_nil)) (pg_name (i := 8) scNames.nd rfl (Or.inl rfl))
        (pss_cons (ps_set (i := 9) scNames.nd rfl (Or.inl rfl) (pe_ix (ix_K (K := K) true) (pv 4) (pe_op op_mod (dN.call hr rfl (pa_cons (pv 0) (pa_cons (pe_op op_add (pe_op op_add (pv 1) pe_int) (pe_op op_mul (pv 8) (pe_op op_mod (pe_op op_fdiv (pv 5) pe_int) pe_int))) pa_nil))) pe_int) (fun _ _ => rfl)))
        (pss_one (ps_expr (pe_bm PySem.F.plainAttrs_list PySem.F.slot_list_append PySem.F.type_list_append mt_append (pv 7) (pa_cons
          (pe_op op_add_str (pe_op op_add_str (pe_slice sl_str (pv 9) po_none (po_some (pv 6))) (pe_ix ix_str (pv 3) (pe_op op_mod (pe_op op_add (pv 5) (pe_op op_mul pe_int (pv 8))) pe_int) (fun _ _ => rfl))) (pe_slice sl_str (pv 9) (po_some (pv 6)) po_none)) pa_nil))))))
      (pss_one (ps_ret (pe_callTy (c_tup (K := K)) (by rfl) B.tuple (by decide +kernel) (pa_cons (pv 7) pa_nil))))))))), ?_⟩
    refine ⟨(by show 8 ≤ sizeLine; decide), fun b nb => ?_⟩
    have s1 : Same H (upd H b (.lst (someN.map V.str))) := Same.new nb
    refine ⟨_, rfl, _, rfl, a, ns, st, rfl, s1.seq hS, hl, hst, fun H2 fst s2 f1 f2 => ?_⟩
    have hb2 : H2 b = some (.lst (someN.map V.str)) := s2 _ _ upd_same
    have s2' : Same H H2 := s1.trans s2
    refine ⟨_, rfl, _, _, rfl, rfl, ⟨by decide, by decide⟩, _, _, rfl, rfl, (by show (0 : Int) < 8; decide), ?_⟩
    obtain ⟨pp, ep⟩ : ∃ pp : Nat, fst / 26 % 8 = (pp : Int) := ⟨(fst / 26 % 8).toNat, (Int.toNat_of_nonneg (Int.emod_nonneg _ (by decide))).symm⟩
    show gName 6 (V.int (fst / 26 % 8)) _ _ _
    rw [ep]
    refine ⟨(by show 0 ≤ sizeLine; decide), fun c nc => ?_⟩
    refine ⟨_, rfl, _, rfl, by omega, by omega, ?_⟩
    rw [Int.toNat_natCast]
    refine for_range (lo := 0) (n := m) (fun i σ H3 => ∃ (zs : List Str) (v8 v9 : Option V), σ = [some (.ref a), some (.int st), some (.int (m : Nat)), some (.str abc), some (.ref b), some (.int fst), some (.int (pp : Nat)), some (.ref c), v8, v9] ∧
      Same H2 H3 ∧ H3 c = some (.lst (zs.map V.str)) ∧ zs.length = i ∧ ∀ j z, zs[j]? = some z → ∃ y, PyData.strOk y = true ∧ z = glue y pp (97 + ((fst + 5 * (j : Nat)) % 26).toNat))
      ⟨[], none, none, rfl, Same.new nc, upd_same, rfl, by simp⟩ ?_ ?_
    · rintro i σ H3 hi ⟨zs, v8, v9, rfl, s3, hc3, hz, hall⟩
      have s3' : Same H H3 := s2'.trans s3
      refine ⟨_, rfl, _, rfl, _, rfl, _, _, rfl, rfl, _, rfl, _, rfl, _, _, rfl, rfl, ⟨by decide, by decide⟩, _, _, rfl, rfl, (by show (0 : Int) < 2; decide), _, _, rfl, rfl, .inr ⟨?_, ?_⟩, _, _, rfl, rfl, a, ns, _, rfl, s3'.seq hS, hl, ?_, fun H4 m4 s4 q1 q2 => ?_⟩
      · have := Int.emod_nonneg (fst / 208) (show (2 : Int) ≠ 0 by decide); omega
      · have := Int.emod_lt_of_pos (fst / 208) (show (0 : Int) < 2 by decide); omega
      · have h1 := Int.emod_nonneg (fst / 208) (show (2 : Int) ≠ 0 by decide)
        have h2 : 0 ≤ (0 + (i : Int)) * (fst / 208 % 2) := Int.mul_nonneg (by omega) h1
        omega
      have s4' : Same H H4 := s3'.trans s4
      obtain ⟨j, ej⟩ : ∃ j : Nat, m4 % 8 = (j : Int) := ⟨(m4 % 8).toNat, (Int.toNat_of_nonneg (Int.emod_nonneg _ (by decide))).symm⟩
      obtain ⟨y, ey, ly, oky⟩ := someN_at (j := j) (by have := Int.emod_lt_of_pos m4 (show (0 : Int) < 8 by decide); omega)
      refine ⟨_, _, rfl, rfl, (by show (0 : Int) < 8; decide), b, _, j, _, rfl, congrArg V.int ej, SqL.of (s4 _ _ (s3 _ _ hb2)), ey, ?_⟩
      have hc4 := s4 _ _ hc3
      refine ⟨_, rfl, .inl ⟨rfl, _, SqL.of hc4⟩, ?_⟩
      have ly2 : y.length ≤ sizeLine := Nat.le_trans ly (by rw [sizeLine_eq]; decide)
      have hx := Int.emod_nonneg (fst + 5 * (0 + (i : Int))) (show (26 : Int) ≠ 0 by decide)
      have hx2 := Int.emod_lt_of_pos (fst + 5 * (0 + (i : Int))) (show (0 : Int) < 26 by decide)
      obtain ⟨u, eu⟩ : ∃ u : Nat, (fst + 5 * (0 + (i : Int))) % 26 = (u : Int) := ⟨_, (Int.toNat_of_nonneg hx).symm⟩
      have at1 : atI abc.cps.toList ((fst + 5 * (0 + (i : Int))) % 26) = some (97 + u) := by
        rw [eu]
        exact atI_nat (abc_at u (by omega))
      have c1 := cutS_length y none (some (pp : Int))
      have c2 := cutS_length y (some (pp : Int)) none
      have one : (⟨#[97 + u]⟩ : Str).length = 1 := rfl
      refine ⟨_, rfl, _, rfl, _, rfl, y, rfl, ly2, _, rfl, _, rfl, _, rfl, _, _, rfl, rfl, .inl ⟨by decide, by decide⟩, _, _, rfl, rfl, _, _, rfl, rfl, (by show (0 : Int) < 26; decide), _, _, _, rfl, rfl, by rw [abc_len, sizeLine_eq]; decide, at1,
        _, _, rfl, rfl, by rw [one, sizeLine_eq]; omega, _, rfl, _, rfl, _, rfl, y, rfl, ly2, _, _, rfl, rfl, by rw [Str.length_append, one, sizeLine_eq]; omega, c, _, _, rfl, rfl, hc4, by rw [List.length_map, hz]; exact small1000 (by omega), ?_⟩
      refine ⟨zs ++ [glue y pp (97 + u)], _, _, rfl, Same.newT (s3.trans s4) nc, by rw [upd_same, List.map_append]; rfl, by rw [List.length_append, hz]; rfl, fun j z hjz => ?_⟩
      by_cases hj : j < zs.length
      · rw [List.getElem?_append_left hj] at hjz
        exact hall j z hjz
      · rw [List.getElem?_append_right (by omega)] at hjz
        have h0 : j - zs.length = 0 := by
          have := (List.getElem?_eq_some_iff.mp hjz).1
          simpa using this
        rw [h0] at hjz
        obtain rfl : glue y pp (97 + u) = z := by simpa using hjz
        have ji : j = i := by omega
        refine ⟨y, oky, ?_⟩
        rw [ji]
        rw [Int.zero_add] at eu
        rw [eu, Int.toNat_natCast]
    · rintro σ H3 ⟨zs, v8, v9, rfl, s3, hc3, hz, hall⟩
      refine ⟨_, rfl, c, _, rfl, SqL.of hc3, fun t nt => hq _ t zs (Same.out (s2'.trans s3) nt) upd_same hz ?_ fun z hm => ?_⟩
      rotate_left
      · obtain ⟨i, ei⟩ := List.mem_iff_getElem?.mp hm
        obtain ⟨y, oky, rfl⟩ := hall i z ei
        refine glue_ok oky ?_
        have := Int.emod_lt_of_pos (fst + 5 * (i : Int)) (show (0 : Int) < 26 by decide)
        omega
      show List.Pairwise _ zs
      rw [List.pairwise_iff_getElem]
      intro i j hi hj hij he
      have e1 := List.getElem?_eq_getElem hj
      have e2 : zs[i]? = some zs[j] := by rw [List.getElem?_eq_getElem hi, he]
      obtain ⟨y1, _, g1⟩ := hall i _ e2
      obtain ⟨y2, _, g2⟩ := hall j _ e1
      have q := glue_inj (g1.symm.trans g2)
      have b1 := Int.emod_nonneg (fst + 5 * (i : Int)) (show (26 : Int) ≠ 0 by decide)
      have b2 := Int.emod_nonneg (fst + 5 * (j : Int)) (show (26 : Int) ≠ 0 by decide)
      have q2 : (fst + 5 * (i : Int)) % 26 = (fst + 5 * (j : Int)) % 26 := by omega
      have := five_mod (a := fst) (i := i) (j := j) (by omega) (by omega) (by omega) (by omega) q2
      omega
end
end My

/-! ### _law_right, _law_weighed, _law_turned -/
namespace My
open PySem PySem.Spec PyProof.Rows L2

/-! data that are compared -/
section
variable {K : PySem.W.Frag} {H : Hp}
theorem dpall_of : ∀ (vs : List V) (ds : List PyData), vs.length = ds.length → (∀ (i : Nat) (v : V) (d : PyData), vs[i]? = some v → ds[i]? = some d → Dp K H v d) → DpAll K H vs ds
  | [], [], _, _ => .nil
  | [], _ :: _, h, _ => by simp at h
  | _ :: _, [], h, _ => by simp at h
  | v :: vs, d :: ds, h, k => .cons (k 0 v d rfl rfl) (dpall_of vs ds (by simpa using h) fun i v d e1 e2 => k (i + 1) v d (by simpa using e1) (by simpa using e2))
theorem lay_all : ∀ ds : List PyData, (∀ d ∈ ds, d.canLay0 = true) → PyData.canLayAll0 ds = true
  | [], _ => rfl
  | d :: ds, h => by
    rw [PyData.canLayAll0, h d List.mem_cons_self, lay_all ds fun x hx => h x (List.mem_cons_of_mem _ hx)]
    rfl
theorem dep_all {n : Nat} : ∀ ds : List PyData, (∀ d ∈ ds, d.depth ≤ n) → PyData.depthAll ds ≤ n
  | [], _ => Nat.zero_le _
  | d :: ds, h => by
    have h1 := h d List.mem_cons_self
    have h2 := dep_all ds fun x hx => h x (List.mem_cons_of_mem _ hx)
    rw [PyData.depthAll]
    omega
/-- of a depth of at most n -/
def Flat (n : Nat) (d : PyData) : Prop := d.canLay0 = true ∧ d.depth ≤ n
theorem flat_tup {n : Nat} {ds : List PyData} (h : ∀ d ∈ ds, Flat n d) : Flat (n + 1) (.tuple ds) :=
  ⟨by rw [PyData.canLay0]; exact lay_all ds fun d hd => (h d hd).1, by rw [PyData.depth]; exact Nat.succ_le_succ (dep_all ds fun d hd => (h d hd).2)⟩
theorem flat_lst {n : Nat} {ds : List PyData} (h : ∀ d ∈ ds, Flat n d) : Flat (n + 1) (.list ds) :=
  ⟨by rw [PyData.canLay0]; exact lay_all ds fun d hd => (h d hd).1, by rw [PyData.depth]; exact Nat.succ_le_succ (dep_all ds fun d hd => (h d hd).2)⟩
theorem flat_int (n : Nat) (i : Int) : Flat n (.int i) := ⟨by rw [PyData.canLay0], by rw [PyData.depth]; exact Nat.zero_le _⟩
theorem flat_str (n : Nat) {z : Str} (h : PyData.strOk z = true) : Flat n (.str z) := ⟨by rw [PyData.canLay0]; exact h, by rw [PyData.depth]; exact Nat.zero_le _⟩
theorem Flat.mono {n m : Nat} {d : PyData} (h : Flat n d) (e : n ≤ m) : Flat m d := ⟨h.1, Nat.le_trans h.2 e⟩
theorem Flat.shaped {n : Nat} {d : PyData} (h : Flat n d) (e : n ≤ 64) : SeqAt.shaped d = true := by
  unfold SeqAt.shaped
  rw [h.1, decide_eq_true (Nat.le_trans h.2 e)]
  rfl
def rowD (n : Nat) (g : Nat → Int) : PyData := .tuple ((List.range n).map fun j => .int (g j))
def webD (ns : List Str) (n : Nat) (f : Nat → Nat → Int) : PyData := .tuple [.tuple (ns.map PyData.str), .tuple ((List.range n).map fun i => rowD n (f i))]
def polyD (l : List Int) : PyData := .tuple ((List.range l.length).map fun i => .tuple [.int (l.getD i 0), .int 1])
theorem rowD_dp {b : Addr} {n : Nat} {g : Nat → Int} (h : SqT K H b (rowV n g)) : Dp K H (.ref b) (rowD n g) := by
  refine Dp.tup h (dpall_of _ _ (by simp [rowV]) fun i v d e1 e2 => ?_)
  obtain ⟨hi, rfl⟩ := rowV_inv e1
  rw [List.getElem?_map, List.getElem?_range hi] at e2
  cases e2
  exact Dp.int _
theorem webD_dp {a : Addr} {ns : List Str} {n : Nat} {f : Nat → Nat → Int} (h : WebAt K H a ns n f) : Dp K H (.ref a) (webD ns n f) := by
  obtain ⟨p, q, h1, h2, h3⟩ := h.ex
  obtain ⟨as, t1, t2, t3⟩ := h3.ex
  refine Dp.tup h1 (.cons (Dp.tup h2 (dpall_of _ _ (by simp) fun i v d e1 e2 => ?_)) (.cons (Dp.tup t1 (dpall_of _ _ (by simp [t2]) fun i v d e1 e2 => ?_)) .nil))
  · rw [List.getElem?_map] at e1 e2
    cases e : ns[i]? with
    | none => rw [e] at e1; cases e1
    | some z =>
      rw [e] at e1 e2
      cases e1
      cases e2
      exact Dp.str z
  · obtain ⟨b, rfl, hb⟩ := ref_at e1
    have hi : i < n := t2 ▸ (List.getElem?_eq_some_iff.mp hb).1
    rw [List.getElem?_map, List.getElem?_range hi] at e2
    cases e2
    exact rowD_dp (t3 i b hb)
theorem polyD_dp {a : Addr} {l : List Int} (h : PolyAt K H a l) : Dp K H (.ref a) (polyD l) := by
  obtain ⟨as, h1, h2, h3⟩ := h.ex
  refine Dp.tup h1 (dpall_of _ _ (by simp [h2]) fun i v d e1 e2 => ?_)
  obtain ⟨b, rfl, hb⟩ := ref_at e1
  have hi : i < l.length := h2 ▸ (List.getElem?_eq_some_iff.mp hb).1
  rw [List.getElem?_map, List.getElem?_range hi] at e2
  cases e2
  exact Dp.tup (h3 i b hb) (.cons (Dp.int _) (.cons (Dp.int _) .nil))
theorem webD_flat {ns : List Str} (n : Nat) (f : Nat → Nat → Int) (h : ∀ z ∈ ns, PyData.strOk z = true) : Flat 3 (webD ns n f) := by
  refine flat_tup fun d hd => ?_
  simp only [List.mem_cons, List.not_mem_nil, or_false] at hd
  rcases hd with rfl | rfl
  · refine flat_tup fun d hd => ?_
    obtain ⟨z, hz, rfl⟩ := List.mem_map.mp hd
    exact flat_str 1 (h z hz)
  · refine flat_tup fun d hd => ?_
    obtain ⟨i, _, rfl⟩ := List.mem_map.mp hd
    refine flat_tup fun d hd => ?_
    obtain ⟨j, _, rfl⟩ := List.mem_map.mp hd
    exact flat_int 0 _
theorem polyD_flat (l : List Int) : Flat 2 (polyD l) := by
  refine flat_tup fun d hd => ?_
  obtain ⟨i, _, rfl⟩ := List.mem_map.mp hd
  refine flat_tup fun d hd => ?_
  simp only [List.mem_cons, List.not_mem_nil, or_false] at hd
  rcases hd with rfl | rfl <;> exact flat_int 0 _
end
section
variable {P : Program} {w : World} {K : PySem.W.Frag} {mg : Str → Option Value} {base : Heap} {C : Addr}
def spRight (K : PySem.W.Frag) (C : Addr) : Sp := fun vs H Q _ => ∃ (x n r : Addr) (as : List Addr) (ns : List Str) (sz : Nat) (f : Nat → Nat → Int) (wb : Addr) (m : Nat) (way : Int), vs = [.ref x, .ref wb, .int ((m : Nat) : Int), .int way] ∧
  Kept C H x n r as ns sz f ∧ WebAt K H wb ns sz f ∧ sz ≤ 900 ∧ m ≤ 900 ∧ Small sz f ∧ (∀ z ∈ ns, PyData.strOk z = true) ∧ ∀ H', Same H H' → Q (.bl true) H'
abbrev nmRight : List Str := ["kept", "web", "many", "way", "k", "kind"]
theorem scRight : FnScope nmRight ["kept", "web", "many", "way"] (defScope sRight) := ⟨rfl, rfl, rfl, by decide +kernel, rfl, by decide +kernel, by decide +kernel⟩
theorem ok_right {f : Addr} {fd : FuncData} (F : Fun K "_law_right" "_law_right" sRight f fd) (T : Ct K mg C) (B : Bi mg) (dW : Mdef P w K mg base C "web" 1 ["self"] (spWeb K C)) (dP : Mdef P w K mg base C "poly" 5 ["self"] (spMPoly K C))
    (dC : Mdef P w K mg base C "closed" 5 ["self", "many"] (spMClosed C)) (fC : Def P w K mg base "closed_walks" 4 ["web", "many"] (spClosed K)) (fP : Def P w K mg base "poly_of" 4 ["table"] (spPoly K)) :
    FnOk P w K mg base CX0 6 f fd ["kept", "web", "many", "way"] (spRight K C) := by
  refine F.ok scRight (fun vs H Q E h => ?_) (fun cdv A outer s H vs Q E hr h => ?_)
  · obtain ⟨x, n, r, as, ns, sz, f, wb, m, way, rfl, _⟩ := h
    rfl
  · obtain ⟨x, n, r, as, ns, sz, f, wb, m, way, rfl, kp, Wb, hsz, hm, hsm, hok, hq⟩ := h
    have hr1 : Room 1 _ := hr.mono (by decide)
    have hr4 : Room 4 _ := hr.mono (by decide)
    refine ⟨_, pss_cons (ps_for PassesOwn.never rfl (pi_range1 (by rfl) B.range (pa_cons pe_int pa_nil)) (pg_name (i := 4) scRight.nd rfl (Or.inl rfl))
        (pss_cons (ps_set (i := 5) scRight.nd rfl (Or.inl rfl) (pe_op op_mod (pe_op op_add (pv 3) (pv 4)) pe_int))
        (C8.pss_cut (ps_if (PW.pt (pw_and (pt_cmpR op_eq (pv 5) pe_int (nomark _)) (pw_and1 (pt_cmpR op_ne (dC.call T.cl hr (pv 0) (pa_cons (pv 2) pa_nil)) (fC.call hr4 rfl (pa_cons (pv 1) (pa_cons (pv 2) pa_nil))) (nomark _))))) (pss_one (ps_ret pe_bl)) pss_nil)
        (C8.pss_cut (ps_if (PW.pt (pw_and (pt_cmpR op_eq (pv 5) pe_int (nomark _)) (pw_and1 (pt_cmpR op_ne (dC.call T.cl hr (pv 0) (pa_cons pe_int pa_nil)) (pe_callB (c_len (K := K)) (by rfl) B.len PySem.boot_len (pa_cons (pe_ix (ix_K (K := K) false) (pv 1) pe_int (fun _ _ => rfl)) pa_nil)) (nomark _))))) (pss_one (ps_ret pe_bl)) pss_nil)
        (C8.pss_cut (ps_if (PW.pt (pw_and (pt_cmpR op_eq (pv 5) pe_int (nomark _)) (pw_and1 (pt_cmpR (op_neD hr.units) (dP.call0 T.cl hr (pv 0)) (fP.call hr4 rfl (pa_cons (pe_ix (ix_K (K := K) false) (pv 1) pe_int (fun _ _ => rfl)) pa_nil)) (nomark _))))) (pss_one (ps_ret pe_bl)) pss_nil)
        (pss_one (ps_if (PW.pt (pw_and (pt_cmpR op_eq (pv 5) pe_int (nomark _)) (pw_and1 (pt_cmpR (op_neD hr.units) (dW.call0 T.cl hr1 (pv 0)) (pv 1) (nomark _))))) (pss_one (ps_ret pe_bl)) pss_nil)))))))
      (pss_one (ps_ret pe_bl)), ?_⟩
    obtain ⟨p, q, w1, w2, w3⟩ := Wb.ex
    refine ⟨3, rfl, by decide, by decide, ?_⟩
    refine for_range (lo := 0) (n := 3) (fun i σ H2 => ∃ v4 v5, σ = [some (.ref x), some (.ref wb), some (.int (m : Nat)), some (.int way), v4, v5] ∧ Same H H2) ⟨none, none, rfl, Same.refl _⟩ ?_ (fun σ H2 ⟨v4, v5, _, s2⟩ => hq H2 s2)
    rintro i σ H2 hi ⟨v4, v5, rfl, s2⟩
    refine ⟨_, rfl, _, rfl, _, _, rfl, rfl, _, _, rfl, rfl, (by show (0 : Int) < 3; decide), ?_⟩
    let Md : L2.St → Hp → Prop := fun σ H3 => σ = [some (.ref x), some (.ref wb), some (.int (m : Nat)), some (.int way), some (.int (0 + (i : Int))), some (.int ((way + (0 + (i : Int))) % 3))] ∧ Same H H3
    have same0 : ∀ c : Int, (!decide (V.int c = V.int c)) = false := fun c => by simp
    refine ⟨Md, ?_, ?_⟩
    · refine ⟨_, rfl, rfl, _, rfl, ?_⟩
      refine ite2 (fun _ => ?_) (fun _ => iteF ⟨rfl, s2⟩)
      obtain ⟨dx, hx⟩ := (kp.same s2).ins
      refine ⟨_, rfl, x, dx, _, rfl, hx, flds_no n r (by decide +kernel) (by decide +kernel), _, rfl, x, n, r, as, ns, sz, f, m, rfl, kp.same s2, hsz, hm, hsm, fun H3 s3 => ?_⟩
      refine ⟨_, rfl, _, rfl, wb, m, sz, ns, f, rfl, Same.web (s2.trans s3) Wb, hsz, hm, hsm, fun H4 s4 => ⟨rfl, _, rfl, ?_⟩⟩
      rw [same0]
      exact iteF ⟨rfl, (s2.trans s3).trans s4⟩
    rintro σ H3 ⟨rfl, s3⟩
    refine ⟨Md, ?_, ?_⟩
    · refine ⟨_, rfl, rfl, _, rfl, ?_⟩
      refine ite2 (fun _ => ?_) (fun _ => iteF ⟨rfl, s3⟩)
      obtain ⟨dx, hx⟩ := (kp.same s3).ins
      refine ⟨_, rfl, x, dx, _, rfl, hx, flds_no n r (by decide +kernel) (by decide +kernel), x, n, r, as, ns, sz, f, 0, rfl, kp.same s3, hsz, by omega, hsm, fun H4 s4 => ?_⟩
      refine ⟨_, rfl, wb, _, 0, _, rfl, rfl, Same.sqT (s3.trans s4) w1, rfl, p, _, rfl, .inr (Same.sqT (s3.trans s4) w2), rfl, _, rfl, ?_⟩
      rw [closed_zero, List.length_map, Wb.len, same0]
      exact iteF ⟨rfl, s3.trans s4⟩
    rintro σ H3 ⟨rfl, s3⟩
    refine ⟨Md, ?_, ?_⟩
    · refine ⟨_, rfl, rfl, _, rfl, ?_⟩
      refine ite2 (fun _ => ?_) (fun _ => iteF ⟨rfl, s3⟩)
      obtain ⟨dx, hx⟩ := (kp.same s3).ins
      refine ⟨_, rfl, x, dx, _, rfl, hx, flds_no n r (by decide +kernel) (by decide +kernel), x, n, r, as, ns, sz, f, rfl, kp.same s3, hsz, hsm, fun H4 u s4 P4 => ?_⟩
      refine ⟨_, rfl, wb, _, 1, _, rfl, rfl, Same.sqT (s3.trans s4) w1, rfl, q, false, sz, f, rfl, Same.tab (s3.trans s4) w3, hsz, hsm, fun H5 v s5 P5 => ?_⟩
      have P4' : PolyAt K H5 u (polyF sz f) := by
        obtain ⟨us, u1, u2, u3⟩ := P4.ex
        exact ⟨us, Same.sqT s5 u1, u2, fun i b hb => Same.sqT s5 (u3 i b hb)⟩
      refine ⟨polyD (polyF sz f), polyD (polyF sz f), polyD_dp P4', polyD_dp P5, (polyD_flat _).shaped (by decide), (polyD_flat _).shaped (by decide), _, rfl, ?_⟩
      rw [SeqAt.eqv_refl _ (polyD_flat _).1]
      exact iteF ⟨rfl, (s3.trans s4).trans s5⟩
    rintro σ H3 ⟨rfl, s3⟩
    refine ⟨_, rfl, rfl, _, rfl, ?_⟩
    refine ite2 (fun _ => ?_) (fun _ => iteF ⟨_, _, rfl, s3⟩)
    obtain ⟨dx, hx⟩ := (kp.same s3).ins
    refine ⟨_, rfl, x, dx, _, rfl, hx, flds_no n r (by decide +kernel) (by decide +kernel), x, n, r, as, ns, sz, f, rfl, kp.same s3, hsz, fun H4 u s4 W4 => ?_⟩
    refine ⟨_, rfl, webD ns sz f, webD ns sz f, webD_dp W4, webD_dp (Same.web (s3.trans s4) Wb), (webD_flat _ _ hok).shaped (by decide), (webD_flat _ _ hok).shaped (by decide), _, rfl, ?_⟩
    rw [SeqAt.eqv_refl _ (webD_flat _ _ hok).1]
    exact iteF ⟨_, _, rfl, s3.trans s4⟩
def spWeigh (K : PySem.W.Frag) : Sp := fun vs H Q _ => ∃ (a : Addr) (n : Nat) (f : Nat → Nat → Int) (i j : Nat) (v : Int), vs = [.ref a, .int ((i : Nat) : Int), .int ((j : Nat) : Int), .int v] ∧ TabAt false K H a n f ∧ n ≤ 900 ∧ i < n ∧ j < n ∧
  ∀ H' p, Same H H' → TabAt false K H' p n (tieG i j v f) → Q (.ref p) H'
abbrev nmWeigh : List Str := ["table", "one", "other", "weight", "rows", "row"]
theorem scWeigh : FnScope nmWeigh ["table", "one", "other", "weight"] (defScope sWeigh) := ⟨rfl, rfl, rfl, by decide +kernel, rfl, by decide +kernel, by decide +kernel⟩
theorem tie_two {i j : Nat} {v : Int} {f : Nat → Nat → Int} (a : Nat) : (if a = j then (fun b => if b = i then v else (fun c => if c = i then fun b => if b = j then v else f i b else f c) j b) else (fun c => if c = i then fun b => if b = j then v else f i b else f c) a) = tieG i j v f a := by
  funext b
  unfold tieG
  by_cases h1 : a = j <;> by_cases h2 : b = i <;> by_cases h3 : a = i <;> by_cases h4 : b = j <;> simp_all
theorem ok_weigh {f : Addr} {fd : FuncData} (F : Fun K "_law_weighed" "_law_weighed" sWeigh f fd) (B : Bi mg) : FnOk P w K mg base CX0 1 f fd ["table", "one", "other", "weight"] (spWeigh K) := by
  refine F.ok scWeigh (fun vs H Q E h => ?_) (fun cdv A outer s H vs Q E hr h => ?_)
  · obtain ⟨a, n, f, i, j, v, rfl, _⟩ := h
    rfl
  · obtain ⟨a, n, f, i, j, v, rfl, Ta, hn, hi, hj, hq⟩ := h
    refine ⟨_, pss_cons (ps_setLc (i := 4) (own := [("row", 5)]) (g := gName 5) (tt := tYes) (by rfl) scWeigh.nd rfl rfl (sw_true rfl rfl rfl (by decide +kernel)) (pi_K (K := K) false (pv 0))
        (blkOk_by (own := [("row", 5)]) (N := nmWeigh) (sc := defScope sWeigh) (by decide +kernel)) (fun _ _ _ _ _ => pg_name (i := 5) scWeigh.nd rfl (Or.inl rfl)) (fun _ _ _ _ _ => pts_nil)
        (fun _ _ _ _ _ => pe_callTy (c_lst (K := K)) (by rfl) B.list (by decide +kernel) (pa_cons (pv 5) pa_nil)))
      (pss_cons (ps_asg (pv 3) (pg_sub (pe_ix (ix_K (K := K) true) (pv 4) (pv 1) (fun _ _ => rfl)) (pv 2) set_list))
      (pss_cons (ps_asg (pv 3) (pg_sub (pe_ix (ix_K (K := K) true) (pv 4) (pv 2) (fun _ _ => rfl)) (pv 1) set_list))
      (pss_one (ps_ret (pe_callTy (c_tup (K := K)) (by rfl) B.tuple (by decide +kernel) (pa_cons (pe_lc (own := [("row", 5)]) (g := gName 5) (tt := tYes) rfl scWeigh.nd (pi_K (K := K) true (pv 4))
        (blkOk_by (own := [("row", 5)]) (N := nmWeigh) (sc := defScope sWeigh) (by decide +kernel)) (fun _ _ _ _ _ => pg_name (i := 5) scWeigh.nd rfl (Or.inl rfl)) (fun _ _ _ _ _ => pts_nil)
        (fun _ _ _ _ _ => pe_callTy (c_tup (K := K)) (by rfl) B.tuple (by decide +kernel) (pa_cons (pv 5) pa_nil))) pa_nil)))))), ?_⟩
    obtain ⟨as, h1, h2, h3⟩ := Ta.ex
    have hla : (as.map V.ref).length = n := by rw [List.length_map, h2]
    refine ⟨_, rfl, a, rfl, ⟨_, h1⟩, ?_⟩
    refine lc_obj (walk_K (k := false)) (fun i => .lst (rowV n (f i))) (by rw [hla]; omega) (fun H3 s => Same.sqK (k := false) s h1) ?_ ?_
    · rintro k x H2 H3 hk s2 ⟨rfl, hx⟩ R q
      obtain ⟨b, rfl, hb⟩ := ref_at hx
      exact ⟨rfl, _, rfl, b, _, rfl, .inr (Same.sqK (k := false) s2 (h3 k b hb)), fun l nl => q l _ (Same.new nl) nl upd_same⟩
    · intro D bs H1 ob
      rw [hla] at ob
      have ei : bs[i]? = some (bs[i]'(by rw [ob.len]; exact hi)) := List.getElem?_eq_getElem _
      have ej : bs[j]? = some (bs[j]'(by rw [ob.len]; exact hj)) := List.getElem?_eq_getElem _
      refine ⟨_, rfl, _, rfl, _, rfl, D, _, i, _, rfl, rfl, SqL.of ob.dl, ref_to ei, _, rfl, _, _, _, j, rfl, rfl, ob.elt i _ ei, by rw [rowV_len]; exact ixN_nat hj, ?_⟩
      rw [rowV_set]
      have ob2 := (ob.write ei (.lst (rowV n fun b => if b = j then v else f i b))).congr (o' := fun c => .lst (rowV n ((fun c => if c = i then fun b => if b = j then v else f i b else f c) c))) fun c _ => by
        by_cases e : c = i <;> simp [e]
      refine ⟨_, rfl, _, rfl, _, rfl, D, _, j, _, rfl, rfl, SqL.of ob2.dl, ref_to ej, _, rfl, _, _, _, i, rfl, rfl, ob2.elt j _ ej, by rw [rowV_len]; exact ixN_nat hi, ?_⟩
      rw [rowV_set]
      have ob3 := (ob2.write ej (.lst (rowV n fun b => if b = i then v else (fun c => if c = i then fun b => if b = j then v else f i b else f c) j b))).congr (o' := fun c => .lst (rowV n (tieG i j v f c))) fun c _ => by
        rw [← tie_two c]
        by_cases e : c = j <;> simp [e]
      refine ⟨_, rfl, D, rfl, ⟨_, SqL.of ob3.dl⟩, ?_⟩
      have hlb : (bs.map V.ref).length = n := by rw [List.length_map, ob.len]
      refine lc_obj (walk_K (k := true)) (fun c => .tup (rowV n (tieG i j v f c))) (by rw [hlb]; omega) (fun H3 s => SqL.of (s _ _ ob3.dl)) ?_ ?_
      · rintro k x H3 H4 hk s3 ⟨rfl, hx⟩ R q1
        obtain ⟨b, rfl, hb⟩ := ref_at hx
        exact ⟨rfl, _, rfl, b, _, rfl, SqL.of (s3 _ _ (ob3.elt k b hb)), fun l nl => q1 l _ (Same.new nl) nl upd_same⟩
      · intro D2 bs2 H3 ob4
        rw [hlb] at ob4
        refine ⟨D2, _, rfl, SqL.of ob4.dl, fun l nl => hq _ l ?_ ?_⟩
        · exact Same.out (ob3.same.trans ob4.same) nl
        · refine ⟨bs2, SqT.of upd_same, ob4.len, fun c b hb => SqT.of ?_⟩
          rw [upd_ne (ne_of_none (ob4.elt c b hb) nl)]
          exact ob4.elt c b hb
theorem er_perm {α : Type} : ∀ (l : List α) (k : Nat) (y : α), l[k]? = some y → (y :: l.eraseIdx k).Perm l
  | [], _, _, h => by simp at h
  | a :: t, 0, y, h => by
    obtain rfl : a = y := by simpa using h
    exact .refl _
  | a :: t, k + 1, y, h => (List.Perm.swap a y _).trans ((er_perm t k y (by simpa using h)).cons a)
/-- v is a pair of ints -/
def PairV (H : Hp) (v : V) : Prop := ∃ (b : Addr) (i j : Int), v = .ref b ∧ H b = some (.tup [.int i, .int j])
theorem pairs_dp {K : PySem.W.Frag} {H : Hp} : ∀ ws : List V, (∀ v ∈ ws, PairV H v) → ∃ ds : List PyData, DpAll K H ws ds ∧ (∀ d ∈ ds, Flat 1 d) ∧ ds.length = ws.length
  | [], _ => ⟨[], .nil, by simp, rfl⟩
  | v :: ws, h => by
    obtain ⟨ds, h1, h2, h3⟩ := pairs_dp ws fun x hx => h x (List.mem_cons_of_mem _ hx)
    obtain ⟨b, i, j, rfl, hb⟩ := h v List.mem_cons_self
    refine ⟨.tuple [.int i, .int j] :: ds, .cons (Dp.tup (SqT.of hb) (.cons (Dp.int _) (.cons (Dp.int _) .nil))) h1, fun d hd => ?_, by simp [h3]⟩
    rcases List.mem_cons.mp hd with rfl | hd
    · refine flat_tup fun d hd => ?_
      simp only [List.mem_cons, List.not_mem_nil, or_false] at hd
      rcases hd with rfl | rfl <;> exact flat_int 0 _
    · exact h2 d hd
def spTurned (K : PySem.W.Frag) : Sp := fun vs H Q _ => ∃ (nb : Int) (a : Addr) (xs : List V), vs = [.int nb, .ref a] ∧ SqL K H a xs ∧ 0 ≤ nb ∧ xs.length ≤ 900 ∧ (∀ v ∈ xs, PairV H v) ∧
  ∀ (H' : Hp) (p : Addr) (ys : List V), Same H H' → H' p = some (.lst ys) → ys.Perm xs → Q (.ref p) H'
abbrev nmTurned : List Str := ["number", "things", "waiting", "found"]
theorem scTurned : FnScope nmTurned ["number", "things"] (defScope sTurned) := ⟨rfl, rfl, rfl, by decide +kernel, rfl, by decide +kernel, by decide +kernel⟩
def lenAt (a : Addr) (H : Hp) : Nat := match H a with
  | some (.lst xs) => xs.length
  | _ => 0
theorem ok_turned {f : Addr} {fd : FuncData} (F : Fun K "_law_turned" "_law_turned" sTurned f fd) (B : Bi mg) : FnOk P w K mg base CX0 1 f fd ["number", "things"] (spTurned K) := by
  refine F.ok scTurned (fun vs H Q E h => ?_) (fun cdv A outer s H vs Q E hr h => ?_)
  · obtain ⟨nb, a, xs, rfl, _⟩ := h
    rfl
  · obtain ⟨nb, a, xs, rfl, hS, hnb, hl, hpr, hq⟩ := h
    refine ⟨_, pss_cons (ps_set (i := 2) scTurned.nd rfl (Or.inl rfl) (pe_callTy (c_lst (K := K)) (by rfl) B.list (by decide +kernel) (pa_cons (pv 1) pa_nil)))
      (pss_cons (ps_set (i := 3) scTurned.nd rfl (Or.inl rfl) (pe_lst pa_nil))
      (pss_cons (ps_while PassesOwn.never (pt_cmpR (op_neD hr.units) (pv 2) (pe_lst pa_nil) (nomark _))
        (pss_cons (ps_expr (pe_bm PySem.F.plainAttrs_list PySem.F.slot_list_append PySem.F.type_list_append mt_append (pv 3) (pa_cons
          (pe_bm PySem.F.plainAttrs_list PySem.F.slot_list_pop PySem.F.type_list_pop mt_popAt (pv 2) (pa_cons (pe_op op_mod (pv 0) (pe_callB (c_len (K := K)) (by rfl) B.len PySem.boot_len (pa_cons (pv 2) pa_nil))) pa_nil)) pa_nil)))
        (pss_one (ps_set (i := 0) scTurned.nd rfl (Or.inl rfl) (pe_op op_mod (pe_op op_fdiv (pe_op op_mul (pv 0) pe_int) pe_int) pe_int)))))
      (pss_one (ps_ret (pv 3))))), ?_⟩
    refine ⟨_, rfl, a, _, rfl, .inl hS, fun wl nw => ⟨(by show 0 ≤ sizeLine; decide), fun fl nf => ?_⟩⟩
    have s1 : Same H (upd H wl (.lst xs)) := Same.new nw
    have wf : wl ≠ fl := by rintro rfl; rw [upd_same] at nf; cases nf
    have nfH : H fl = none := s1.free nf
    refine while_by (fun σ H2 => ∃ (nb : Int) (ws fs : List V), σ = [some (.int nb), some (.ref a), some (.ref wl), some (.ref fl)] ∧ 0 ≤ nb ∧ Same H H2 ∧ H2 wl = some (.lst ws) ∧ H2 fl = some (.lst fs) ∧ (fs ++ ws).Perm xs) (fun _ H2 => lenAt wl H2)
      ⟨nb, xs, [], rfl, hnb, Same.out s1 nf, by rw [upd_ne wf, upd_same], upd_same, .refl _⟩ ?_ (fun σ H Q Q' hQ ⟨v, e, l, h⟩ => ⟨v, e, l, fun p np => by
        obtain ⟨d, e', a1, a2, a3, a4, k, ek, q⟩ := h p np
        exact ⟨d, e', a1, a2, a3, a4, k, ek, hQ _ _ q⟩⟩)
    rintro σ H2 ⟨nb2, ws, fs, rfl, hnb2, s2, hw, hf, hp⟩
    have hlen : fs.length + ws.length = xs.length := by rw [← List.length_append]; exact hp.length_eq
    have hpw : ∀ v ∈ ws, PairV H2 v := fun v hv => by
      obtain ⟨b, i, j, e, hb⟩ := hpr v (hp.subset (List.mem_append_right _ hv))
      exact ⟨b, i, j, e, s2 _ _ hb⟩
    refine ⟨_, rfl, (by show 0 ≤ sizeLine; decide), fun el ne => ?_⟩
    have s3 : Same H2 (upd H2 el (.lst [])) := Same.new ne
    obtain ⟨ds, d1, d2, d3⟩ := pairs_dp (K := K) (H := upd H2 el (.lst [])) ws fun v hv => by
      obtain ⟨b, i, j, e, hb⟩ := hpw v hv
      exact ⟨b, i, j, e, s3 _ _ hb⟩
    refine ⟨.list ds, .list [], Dp.lst (SqL.of (s3 _ _ hw)) d1, Dp.lst (SqL.of upd_same) .nil, (flat_lst d2).shaped (by decide), rfl, _, rfl, ?_⟩
    cases ws with
    | nil =>
      obtain rfl : ds = [] := List.eq_nil_of_length_eq_zero d3
      refine iteF ?_
      refine ⟨_, rfl, hq _ fl fs (s2.trans s3) (s3 _ _ hf) ?_⟩
      rw [List.append_nil] at hp
      exact hp
    | cons w0 wt =>
      obtain ⟨d0, dt, rfl⟩ : ∃ d0 dt, ds = d0 :: dt := by
        cases ds with
        | nil => simp at d3
        | cons d0 dt => exact ⟨d0, dt, rfl⟩
      refine iteT ?_
      have hpos : (0 : Int) < (((w0 :: wt).length : Nat) : Int) := by rw [List.length_cons]; omega
      have b1 := Int.emod_nonneg nb2 (show (((w0 :: wt).length : Nat) : Int) ≠ 0 by omega)
      have b2 := Int.emod_lt_of_pos nb2 hpos
      obtain ⟨k, ek⟩ : ∃ k : Nat, nb2 % (((w0 :: wt).length : Nat) : Int) = (k : Int) := ⟨_, (Int.toNat_of_nonneg b1).symm⟩
      have hk : k < (w0 :: wt).length := by omega
      have hlw : (w0 :: wt).length ≤ 900 := by omega
      refine ⟨_, rfl, .inl ⟨rfl, _, SqL.of (s3 _ _ hf)⟩, _, rfl, .inl ⟨rfl, _, SqL.of (s3 _ _ hw)⟩, _, rfl, _, rfl, wl, _, rfl, .inl (SqL.of (s3 _ _ hw)), _, _, rfl, rfl, hpos, wl, _, _, k, _, rfl, rfl, s3 _ _ hw, by omega, by omega, ?_, List.getElem?_eq_getElem hk, ?_⟩
      · rw [ek]; exact seqIx hk (by omega)
      have hf4 : (upd (upd H2 el (.lst [])) wl (.lst ((w0 :: wt).eraseIdx k))) fl = some (.lst fs) := by rw [upd_ne wf.symm]; exact s3 _ _ hf
      refine ⟨fl, _, _, rfl, rfl, hf4, small1000 (by omega), ?_⟩
      refine ⟨_, rfl, _, _, rfl, rfl, .inr ⟨by decide, by decide⟩, _, _, rfl, rfl, ⟨by decide, by decide⟩, _, _, rfl, rfl, (by show (0 : Int) < 1000003; decide), ?_⟩
      have hw5 : (upd (upd (upd H2 el (.lst [])) wl (.lst ((w0 :: wt).eraseIdx k))) fl (.lst (fs ++ [(w0 :: wt)[k]]))) wl = some (.lst ((w0 :: wt).eraseIdx k)) := by rw [upd_ne wf, upd_same]
      refine ⟨⟨_, (w0 :: wt).eraseIdx k, fs ++ [(w0 :: wt)[k]], rfl, Int.emod_nonneg _ (by decide), Same.newT (Same.newT (s2.trans s3) nw) nfH, hw5, upd_same, ?_⟩, ?_⟩
      · rw [List.append_assoc]
        exact ((er_perm (w0 :: wt) k _ (List.getElem?_eq_getElem hk)).append_left fs).trans hp
      · show lenAt wl _ < lenAt wl H2
        unfold lenAt
        rw [hw5, hw]
        show ((w0 :: wt).eraseIdx k).length < (w0 :: wt).length
        rw [List.length_eraseIdx, if_pos hk]
        omega
end
end My

/-! ### _law_table -/
namespace My
open PySem PySem.Spec PyProof.Rows L2

/-- the same turned about, weights from -99 to 99 -/
structure Sym (f : Nat → Nat → Int) : Prop where
  turn : ∀ i j, f i j = f j i
  lo : ∀ i j, -99 ≤ f i j
  hi : ∀ i j, f i j ≤ 99
theorem Sym.tie {f : Nat → Nat → Int} (s : Sym f) {i j : Nat} {v : Int} (h1 : -99 ≤ v) (h2 : v ≤ 99) : Sym (tieG i j v f) := by
  constructor
  · intro a b
    unfold tieG
    by_cases x1 : a = j <;> by_cases x2 : b = i <;> by_cases x3 : a = i <;> by_cases x4 : b = j <;> simp_all <;> exact s.turn _ _
  · intro a b
    unfold tieG
    split
    · exact h1
    · split
      · exact h1
      · exact s.lo a b
  · intro a b
    unfold tieG
    split
    · exact h2
    · split
      · exact h2
      · exact s.hi a b
theorem Sym.zero : Sym fun _ _ => 0 := ⟨fun _ _ => rfl, fun _ _ => by decide, fun _ _ => by decide⟩
theorem Sym.small {f : Nat → Nat → Int} (s : Sym f) (n : Nat) : Small n f := fun i j _ _ => by
  have h1 := s.lo i j
  have h2 := s.hi i j
  constructor <;> omega
def kindsV : List V := [.str "few", .str "many", .str "signs", .str "any"]
/-- the dict of the weights -/
def wD (a b c d e g : Int) : List (Key × V) :=
  putK (putK (putK (mergeK [] [((Sum.inr ("few" : Str) : Key), V.int a), (Sum.inr ("many" : Str), V.int b), (Sum.inr ("small" : Str), V.int c)]) (Sum.inr ("above" : Str)) (V.int d)) (Sum.inr ("signs" : Str)) (V.int e)) (Sum.inr ("any" : Str)) (V.int g)
theorem wD_val (a b c d e g : Int) (k : Key) : valV (wD a b c d e g) k = if k = Sum.inr ("any" : Str) then some (.int g) else if k = Sum.inr ("signs" : Str) then some (.int e) else if k = Sum.inr ("above" : Str) then some (.int d)
    else if k = Sum.inr ("small" : Str) then some (.int c) else if k = Sum.inr ("many" : Str) then some (.int b) else if k = Sum.inr ("few" : Str) then some (.int a) else none := by
  unfold wD
  rw [valV_put, valV_put, valV_put]
  show (if k = Sum.inr ("any" : Str) then some (V.int g) else if k = Sum.inr ("signs" : Str) then some (V.int e) else if k = Sum.inr ("above" : Str) then some (V.int d) else
    valV (putK (putK (putK [] (Sum.inr ("few" : Str) : Key) (V.int a)) (Sum.inr ("many" : Str)) (V.int b)) (Sum.inr ("small" : Str)) (V.int c)) k) = _
  rw [valV_put, valV_put, valV_put, valV_nil]
theorem wD_kind {a b c d e g : Int} (ha : -99 ≤ a ∧ a ≤ 99) (hb : -99 ≤ b ∧ b ≤ 99) (he : -99 ≤ e ∧ e ≤ 99) (hg : -99 ≤ g ∧ g ≤ 99) {j : Nat} {x : V} (h : kindsV[j]? = some x) :
    ∃ (z : Str) (v : Int), x = .str z ∧ valV (wD a b c d e g) (Sum.inr z) = some (.int v) ∧ -99 ≤ v ∧ v ≤ 99 := by
  have hm : x ∈ kindsV := List.mem_of_getElem? h
  have d1 : ¬ ((Sum.inr ("few" : Str) : Key) = Sum.inr ("any" : Str)) := by decide +kernel
  have d2 : ¬ ((Sum.inr ("few" : Str) : Key) = Sum.inr ("signs" : Str)) := by decide +kernel
  have d3 : ¬ ((Sum.inr ("few" : Str) : Key) = Sum.inr ("above" : Str)) := by decide +kernel
  have d4 : ¬ ((Sum.inr ("few" : Str) : Key) = Sum.inr ("small" : Str)) := by decide +kernel
  have d5 : ¬ ((Sum.inr ("few" : Str) : Key) = Sum.inr ("many" : Str)) := by decide +kernel
  have e1 : ¬ ((Sum.inr ("many" : Str) : Key) = Sum.inr ("any" : Str)) := by decide +kernel
  have e2 : ¬ ((Sum.inr ("many" : Str) : Key) = Sum.inr ("signs" : Str)) := by decide +kernel
  have e3 : ¬ ((Sum.inr ("many" : Str) : Key) = Sum.inr ("above" : Str)) := by decide +kernel
  have e4 : ¬ ((Sum.inr ("many" : Str) : Key) = Sum.inr ("small" : Str)) := by decide +kernel
  have f1 : ¬ ((Sum.inr ("signs" : Str) : Key) = Sum.inr ("any" : Str)) := by decide +kernel
  simp only [kindsV, List.mem_cons, List.not_mem_nil, or_false] at hm
  rcases hm with rfl | rfl | rfl | rfl
  · exact ⟨_, a, rfl, by rw [wD_val, if_neg d1, if_neg d2, if_neg d3, if_neg d4, if_neg d5, if_pos rfl], ha⟩
  · exact ⟨_, b, rfl, by rw [wD_val, if_neg e1, if_neg e2, if_neg e3, if_neg e4, if_pos rfl], hb⟩
  · exact ⟨_, e, rfl, by rw [wD_val, if_neg f1, if_pos rfl], he⟩
  · exact ⟨_, g, rfl, by rw [wD_val, if_pos rfl], hg⟩
theorem bit_in (k : Bool) : -99 ≤ (if k = true then (1 : Int) else 0) ∧ (if k = true then (1 : Int) else 0) ≤ 99 := by
  cases k <;> decide
section
variable {P : Program} {w : World} {K : PySem.W.Frag} {mg : Str → Option Value} {base : Heap}
def spTable (K : PySem.W.Frag) : Sp := fun vs H Q _ => ∃ (a q : Addr) (ns : List Int) (st : Int) (m : Nat), vs = [.ref a, .int st, .int ((m : Nat) : Int), .ref q, .bl true] ∧ SqL K H a (ns.map V.int) ∧ ns.length ≤ 63 ∧ 0 ≤ st ∧ m ≤ 900 ∧ SqT K H q kindsV ∧
  ∀ (H' : Hp) (p : Addr) (f : Nat → Nat → Int), Same H H' → TabAt false K H' p m f → Sym f → Q (.ref p) H'
abbrev nmTable : List Str := ["script", "start", "many", "kinds", "own", "kind", "rows", "at", "one", "other", "number", "weights", "k", "row"]
theorem scTable : FnScope nmTable ["script", "start", "many", "kinds", "own"] (defScope sTable) := ⟨rfl, rfl, rfl, by decide +kernel, rfl, by decide +kernel, by decide +kernel⟩
theorem ok_table {f : Addr} {fd : FuncData} (F : Fun K "_law_table" "_law_table" sTable f fd) (B : Bi mg) (dN : Def P w K mg base "_law_number" 1 ["script", "k"] (spNum K)) :
    FnOk P w K mg base CX0 2 f fd ["script", "start", "many", "kinds", "own"] (spTable K) := by
  refine F.ok scTable (fun vs H Q E h => ?_) (fun cdv A outer s H vs Q E hr h => ?_)
  · obtain ⟨a, q, ns, st, m, rfl, _⟩ := h
    rfl
  · obtain ⟨a, q, ns, st, m, rfl, hS, hl, hst, hm, hk, hq⟩ := h
    have hu := hu_of hr
    refine ⟨_, pss_cons (ps_set (i := 5) scTable.nd rfl (Or.inl rfl) (pe_ix (ix_K (K := K) false) (pv 3) (pe_op op_mod (dN.call hr rfl (pa_cons (pv 0) (pa_cons (pv 1) pa_nil))) (pe_callB (c_len (K := K)) (by rfl) B.len PySem.boot_len (pa_cons (pv 3) pa_nil))) (fun _ _ => rfl)))
      (pss_cons (ps_setLc (i := 6) (own := [("k", 12)]) (g := gName 12) (tt := tYes) (by rfl) scTable.nd rfl rfl (sw_true rfl rfl rfl (by decide +kernel)) (pi_range1 rfl B.range (pa_cons (pv 2) pa_nil))
        (blkOk_by (own := [("k", 12)]) (N := nmTable) (sc := defScope sTable) (by decide +kernel)) (fun _ _ _ _ _ => pg_name (i := 12) scTable.nd rfl (Or.inl rfl)) (fun _ _ _ _ _ => pts_nil)
        (fun _ _ _ _ _ => pe_op op_rep (pe_lst (pa_cons pe_int pa_nil)) (pv 2)))
      (pss_cons (ps_set (i := 7) scTable.nd rfl (Or.inl rfl) (pv 1))
      (pss_cons (ps_for PassesOwn.never rfl (pi_range1 (by rfl) B.range (pa_cons (pv 2) pa_nil)) (pg_name (i := 8) scTable.nd rfl (Or.inl rfl))
        (pss_one (ps_for PassesOwn.never rfl (pi_range2 (by rfl) B.range (pa_cons (pv 8) (pa_cons (pv 2) pa_nil))) (pg_name (i := 9) scTable.nd rfl (Or.inl rfl))
          (pss_cons (ps_set (i := 7) scTable.nd rfl (Or.inl rfl) (pe_op op_add (pv 7) pe_int))
          (pss_cons (ps_set (i := 10) scTable.nd rfl (Or.inl rfl) (dN.call hr rfl (pa_cons (pv 0) (pa_cons (pv 7) pa_nil))))
          (pss_cons (ps_set (i := 11) scTable.nd rfl (Or.inl rfl) (pe_disp (pps_cons pe_str (pe_callTy call_int1 (by rfl) B.int (by decide +kernel) (pa_cons (pe_cmpR op_eq (pe_op op_mod (pv 10) pe_int) pe_int (nomark _)) pa_nil))
            (pps_cons pe_str (pe_callTy call_int1 (by rfl) B.int (by decide +kernel) (pa_cons (pe_cmpR op_gt (pe_op op_mod (pv 10) pe_int) pe_int (nomark _)) pa_nil)) (pps_cons pe_str (pe_op op_mod (pv 10) pe_int) pps_nil))) (by rfl) (by rfl) (fun z => by cases z) (by decide)))
          (pss_cons (ps_dput hu (pv 11) pe_str (pe_op op_mul (pe_op op_mod (pv 10) pe_int) (pe_callTy call_int1 (by rfl) B.int (by decide +kernel) (pa_cons (pe_cmpR op_gt (pe_op op_mod (pv 10) pe_int) pe_int (nomark _)) pa_nil))) rfl)
          (pss_cons (ps_dput hu (pv 11) pe_str (pe_op op_sub (pe_op op_mod (pv 10) pe_int) pe_int) rfl)
          (pss_cons (ps_dput hu (pv 11) pe_str (pe_op op_sub (pe_op op_mod (pv 10) pe_int) pe_int) rfl)
          (pss_one (ps_if (PW.pt (pw_or (pt_truth (pv 4) (by intro _; rfl)) (pw_or1 (pt_cmpR op_ne (pv 8) (pv 9) (nomark _)))))
            (pss_cons (ps_asg (pe_dget hu (pv 11) (pv 5) (fun _ _ => rfl)) (pg_sub (pe_ix (ix_K (K := K) true) (pv 6) (pv 8) (fun _ _ => rfl)) (pv 9) set_list))
            (pss_one (ps_asg (pe_dget hu (pv 11) (pv 5) (fun _ _ => rfl)) (pg_sub (pe_ix (ix_K (K := K) true) (pv 6) (pv 9) (fun _ _ => rfl)) (pv 8) set_list)))) pss_nil)))))))))))
      (pss_one (ps_ret (pe_callTy (c_tup (K := K)) (by rfl) B.tuple (by decide +kernel) (pa_cons (pe_lc (own := [("row", 13)]) (g := gName 13) (tt := tYes) rfl scTable.nd (pi_K (K := K) true (pv 6))
        (blkOk_by (own := [("row", 13)]) (N := nmTable) (sc := defScope sTable) (by decide +kernel)) (fun _ _ _ _ _ => pg_name (i := 13) scTable.nd rfl (Or.inl rfl)) (fun _ _ _ _ _ => pts_nil)
        (fun _ _ _ _ _ => pe_callTy (c_tup (K := K)) (by rfl) B.tuple (by decide +kernel) (pa_cons (pv 13) pa_nil))) pa_nil))))))), ?_⟩
    refine ⟨_, rfl, _, rfl, _, rfl, a, ns, st, rfl, hS, hl, hst, fun H1 m1 s1 f1 f2 => ?_⟩
    obtain ⟨jk, ejk⟩ : ∃ j : Nat, m1 % 4 = (j : Int) := ⟨_, (Int.toNat_of_nonneg (Int.emod_nonneg _ (by decide))).symm⟩
    have hjk : jk < kindsV.length := by
      have h4 := Int.emod_lt_of_pos m1 (show (0 : Int) < 4 by decide)
      show jk < 4
      omega
    have ekind : kindsV[jk]? = some kindsV[jk] := List.getElem?_eq_getElem hjk
    refine ⟨_, rfl, q, _, rfl, .inr (Same.sqT s1 hk), _, _, rfl, rfl, (by show (0 : Int) < 4; decide), q, _, jk, _, rfl, congrArg V.int ejk, Same.sqT s1 hk, ekind, ?_⟩
    refine ⟨_, rfl, _, rfl, by omega, by omega, ?_⟩
    rw [Int.toNat_natCast]
    refine lc_obj walk_range (fun _ => .lst (rowV m fun _ => 0)) (by omega) (fun _ _ => True.intro) ?_ ?_
    · rintro i x H2 H3 hi s2 ⟨rfl, rfl⟩ R q1
      refine ⟨rfl, (by show 1 ≤ sizeLine; decide), fun l nl => ⟨_, rfl, l, _, _, rfl, rfl, upd_same, by omega, by omega, ?_, fun p np => q1 p _ ?_ ?_ ?_⟩⟩
      · show 1 * ((m : Nat) : Int).toNat ≤ sizeLine
        rw [sizeLine_eq]; omega
      · exact Same.out (Same.new nl) np
      · exact (Same.new nl).free np
      · rw [upd_same, Int.toNat_natCast, rowV_zeros]
    · intro D bs H2 ob0
      have ob := ob0.low s1
      refine ⟨_, rfl, _, rfl, _, rfl, by omega, by omega, ?_⟩
      rw [Int.toNat_natCast]
      refine for_range (lo := 0) (n := m) (fun i σ H3 => ∃ (at_ : Int) (f : Nat → Nat → Int) (v8 v9 v10 v11 : Option V), σ = [some (.ref a), some (.int st), some (.int (m : Nat)), some (.ref q), some (.bl true), some kindsV[jk], some (.ref D), some (.int at_), v8, v9, v10, v11, none, none] ∧ 0 ≤ at_ ∧
        Objs H H3 D bs m (fun c => .lst (rowV m (f c))) ∧ Sym f) ⟨st, fun _ _ => 0, none, none, none, none, rfl, hst, ob, Sym.zero⟩ ?_ ?_
      · rintro i σ H3 hi ⟨at_, f, v8, v9, v10, v11, rfl, hat, ob, hf⟩
        refine ⟨_, rfl, _, rfl, _, _, rfl, by omega, ?_⟩
        refine for_range (lo := 0 + (i : Int)) (n := ((m : Int) - (0 + (i : Int))).toNat) (fun t σ H3 => ∃ (at_ : Int) (f : Nat → Nat → Int) (v9 v10 v11 : Option V), σ = [some (.ref a), some (.int st), some (.int (m : Nat)), some (.ref q), some (.bl true), some kindsV[jk], some (.ref D), some (.int at_), some (.int (0 + (i : Int))), v9, v10, v11, none, none] ∧ 0 ≤ at_ ∧
          Objs H H3 D bs m (fun c => .lst (rowV m (f c))) ∧ Sym f) ⟨at_, f, v9, v10, v11, rfl, hat, ob, hf⟩ ?_ ?_
        · rintro t σ H3 ht ⟨at_, f, v9, v10, v11, rfl, hat, ob, hf⟩
          refine ⟨_, rfl, _, _, rfl, rfl, ?_⟩
          refine ⟨_, rfl, _, rfl, a, ns, _, rfl, ob.same.seq hS, hl, by omega, fun H4 nb s4 g1 g2 => ?_⟩
          have ob4 := ob.carry s4
          refine fun d nd => ?_
          have q3 := Int.emod_nonneg nb (show (3 : Int) ≠ 0 by decide)
          -- the display
          refine ⟨_, rfl, _, _, rfl, rfl, (by show (0 : Int) < 3; decide), rfl, .inr ⟨_, rfl, _, rfl, _, _, rfl, rfl, (by show (0 : Int) < 5; decide), _, _, rfl, rfl, .inr ⟨_, rfl, _, rfl, _, _, rfl, rfl, (by show (0 : Int) < 6; decide), upd_same, [((Sum.inr ("few" : Str) : Key), V.int _), (Sum.inr ("many" : Str), V.int _), (Sum.inr ("small" : Str), V.int _)], rfl, (by show 3 ≤ 15; decide), ?_⟩⟩⟩
          rw [upd_upd]
          -- above, signs, any
          refine ⟨_, rfl, _, _, rfl, rfl, (by show (0 : Int) < 100; decide), _, rfl, _, _, rfl, rfl, (by show (0 : Int) < 3; decide), _, _, rfl, rfl, .inr ⟨_, rfl, _, _, rfl, rfl, .inl ⟨?_, ?_⟩, _, rfl, d, _, rfl, DPut.k (k := Sum.inr ("above" : Str)) upd_same ?_, ?_⟩⟩
          · have := Int.emod_nonneg nb (show (100 : Int) ≠ 0 by decide); omega
          · have := Int.emod_lt_of_pos nb (show (0 : Int) < 100 by decide); omega
          · rw [sizeLine_eq]; exact Nat.lt_of_le_of_lt (length_mergeK _ _) (by show 0 + 3 < _; decide)
          rw [upd_upd]
          refine ⟨_, rfl, _, _, rfl, rfl, (by show (0 : Int) < 7; decide), _, _, rfl, rfl, _, rfl, d, _, rfl, DPut.k (k := Sum.inr ("signs" : Str)) upd_same ?_, ?_⟩
          · rw [sizeLine_eq]; exact Nat.lt_of_le_of_lt (length_putK _ _ _) (Nat.lt_of_le_of_lt (Nat.succ_le_succ (length_mergeK _ _)) (by show 0 + 3 + 1 < _; decide))
          rw [upd_upd]
          refine ⟨_, rfl, _, _, rfl, rfl, (by show (0 : Int) < 199; decide), _, _, rfl, rfl, _, rfl, d, _, rfl, DPut.k (k := Sum.inr ("any" : Str)) upd_same ?_, ?_⟩
          · rw [sizeLine_eq]; exact Nat.lt_of_le_of_lt (length_putK _ _ _) (Nat.lt_of_le_of_lt (Nat.succ_le_succ (Nat.le_trans (length_putK _ _ _) (Nat.succ_le_succ (length_mergeK _ _)))) (by show 0 + 3 + 1 + 1 < _; decide))
          rw [upd_upd]
          have r7 := Int.emod_nonneg nb (show (7 : Int) ≠ 0 by decide)
          have r7' := Int.emod_lt_of_pos nb (show (0 : Int) < 7 by decide)
          have r199 := Int.emod_nonneg nb (show (199 : Int) ≠ 0 by decide)
          have r199' := Int.emod_lt_of_pos nb (show (0 : Int) < 199 by decide)
          obtain ⟨z, v, ez, ev, v1, v2⟩ := wD_kind (a := if decide (V.int (nb % 3) = V.int 0) = true then 1 else 0) (b := if decide (0 < nb % 5) = true then 1 else 0) (c := nb % 6) (d := nb % 100 * (if decide (0 < nb % 3) = true then 1 else 0)) (e := nb % 7 - 3) (g := nb % 199 - 99)
            (bit_in _) (bit_in _) (by omega) (by omega) ekind
          have s5 : Same H4 (upd H4 d (.dK (wD (if decide (V.int (nb % 3) = V.int 0) = true then 1 else 0) (if decide (0 < nb % 5) = true then 1 else 0) (nb % 6) (nb % 100 * (if decide (0 < nb % 3) = true then 1 else 0)) (nb % 7 - 3) (nb % 199 - 99)))) := Same.new nd
          have ob5 := ob4.carry s5
          have hot : i + t < m := by omega
          have eo : (0 : Int) + (i : Int) + (t : Int) = ((i + t : Nat) : Int) := by omega
          have ei : bs[i]? = some (bs[i]'(by rw [ob.len]; exact hi)) := List.getElem?_eq_getElem _
          have ej : bs[i + t]? = some (bs[i + t]'(by rw [ob.len]; exact hot)) := List.getElem?_eq_getElem _
          have ndb : ∀ b ∈ bs, d ≠ b := fun b hb => by
            obtain ⟨o, ho⟩ := ob4.there hb
            exact (ne_of_none ho nd).symm
          refine ⟨_, rfl, true, rfl, iteT (iteT ?_)⟩
          rw [ez]
          refine ⟨_, rfl, _, rfl, d, _, rfl, ev ▸ DGet.k (k := Sum.inr z) upd_same, _, rfl, _, rfl, D, _, i, _, rfl, int_zero_add i, SqL.of ob5.dl, ref_to ei, _, rfl, _, _, _, i + t, rfl, rfl, ob5.elt i _ ei, by rw [rowV_len, eo]; exact ixN_nat hot, ?_⟩
          rw [rowV_set]
          have ob6 := (ob5.write ei (.lst (rowV m fun b => if b = i + t then v else f i b))).congr (o' := fun c => .lst (rowV m ((fun c => if c = i then fun b => if b = i + t then v else f i b else f c) c))) fun c _ => by
            by_cases e : c = i <;> simp [e]
          refine ⟨_, rfl, _, rfl, d, _, rfl, ev ▸ DGet.k (k := Sum.inr z) (by rw [upd_ne (ndb _ (List.getElem_mem _))]; exact upd_same), _, rfl, _, rfl, D, _, i + t, _, rfl, congrArg V.int eo, SqL.of ob6.dl, ref_to ej, _, rfl, _, _, _, i, rfl, rfl, ob6.elt (i + t) _ ej, by rw [rowV_len, Int.zero_add]; exact ixN_nat hi, ?_⟩
          rw [rowV_set]
          refine ⟨_, tieG i (i + t) v f, _, _, _, rfl, by omega, ?_, hf.tie v1 v2⟩
          refine (ob6.write ej (.lst (rowV m fun b => if b = i then v else (fun c => if c = i then fun b => if b = i + t then v else f i b else f c) (i + t) b))).congr fun c _ => ?_
          rw [← tie_two c]
          by_cases e : c = i + t <;> simp [e]
        · rintro σ H3 ⟨at_, f, v9, v10, v11, rfl, hat, ob, hf⟩
          exact ⟨at_, f, _, _, _, _, rfl, hat, ob, hf⟩
      · rintro σ H3 ⟨at_, f, v8, v9, v10, v11, rfl, hat, ob, hf⟩
        refine ⟨_, rfl, D, rfl, ⟨_, SqL.of ob.dl⟩, ?_⟩
        have hlb : (bs.map V.ref).length = m := by rw [List.length_map, ob.len]
        refine lc_obj (walk_K (k := true)) (fun c => .tup (rowV m (f c))) (by rw [hlb]; omega) (fun H3 s => SqL.of (s _ _ ob.dl)) ?_ ?_
        · rintro k x H3 H4 hk s3 ⟨rfl, hx⟩ R q1
          obtain ⟨b, rfl, hb⟩ := ref_at hx
          exact ⟨rfl, _, rfl, b, _, rfl, SqL.of (s3 _ _ (ob.elt k b hb)), fun l nl => q1 l _ (Same.new nl) nl upd_same⟩
        · intro D2 bs2 H3 ob4
          rw [hlb] at ob4
          refine ⟨D2, _, rfl, SqL.of ob4.dl, fun l nl => hq _ l f ?_ ?_ hf⟩
          · exact Same.out (ob.same.trans ob4.same) nl
          · refine ⟨bs2, SqT.of upd_same, ob4.len, fun c b hb => SqT.of ?_⟩
            rw [upd_ne (ne_of_none (ob4.elt c b hb) nl)]
            exact ob4.elt c b hb
end
end My

/-! ### _law_two_kept -/
namespace My
open PySem PySem.Spec PyProof.Rows L2

/-- the class is made -/
structure Cdef (P : Program) (w : World) (K : PySem.W.Frag) (mg : Str → Option Value) (base : Heap) (C : Addr) : Prop where
  ex : ∃ (f : Addr) (fd : FuncData), Mk K C f ∧ mg "KeptWeb" = some (.ref C) ∧ Binds K fd ["self", "name"] [] ∧ FnOk P w K mg base CX0 1 f fd ["self", "name"] (spInit C)
theorem Cdef.make {X : Cx} {C : Addr} {p pos : Pos} {e : Expr} {es : List Expr} {t : TA} (d : Cdef X.prog X.w X.K X.mg X.base C) (hr : Room 2 X.A) (hg : Gl X "KeptWeb") (ha : PA X (e :: es) t)
    (he : starEach (e :: es) X.env = (false, eval e X.env) :: starEach es X.env := by rfl) (hpl : (backTo pos (starEach es X.env)).any (·.1) = false := by rfl) : PE X (.Call (.Name "KeptWeb" p) (e :: es) [] pos) (tMake C (spInit C) [] E0 t) := by
  obtain ⟨f, fd, M, hm, hb, F⟩ := d.ex
  exact pe_make M F hr hg hm hb .nil pass0 ha (by decide) he hpl

/-- two kept webs, apart, new since H0 -/
structure Two (C : Addr) (H0 H : Hp) (x1 n1 r1 : Addr) (as1 : List Addr) (ns1 : List Str) (s1 : Nat) (g1 : Nat → Nat → Int) (x2 n2 r2 : Addr) (as2 : List Addr) (ns2 : List Str) (s2 : Nat) (g2 : Nat → Nat → Int) : Prop where
  same : Same H0 H
  k1 : Kept C H x1 n1 r1 as1 ns1 s1 g1
  k2 : Kept C H x2 n2 r2 as2 ns2 s2 g2
  ap : ∀ b ∈ x1 :: n1 :: r1 :: as1, b ∉ x2 :: n2 :: r2 :: as2
  w1 : ∀ b ∈ x1 :: n1 :: r1 :: as1, H0 b = none
  w2 : ∀ b ∈ x2 :: n2 :: r2 :: as2, H0 b = none
section
variable {C : Addr} {H0 H H' : Hp} {x1 n1 r1 x2 n2 r2 : Addr} {as1 as2 as' : List Addr} {ns1 ns2 ns' : List Str} {s1 s2 s' : Nat} {g1 g2 g' : Nat → Nat → Int}
theorem Two.swap (t : Two C H0 H x1 n1 r1 as1 ns1 s1 g1 x2 n2 r2 as2 ns2 s2 g2) : Two C H0 H x2 n2 r2 as2 ns2 s2 g2 x1 n1 r1 as1 ns1 s1 g1 :=
  ⟨t.same, t.k2, t.k1, fun b h1 h2 => t.ap b h2 h1, t.w2, t.w1⟩
theorem Two.carry (t : Two C H0 H x1 n1 r1 as1 ns1 s1 g1 x2 n2 r2 as2 ns2 s2 g2) (s : Same H H') : Two C H0 H' x1 n1 r1 as1 ns1 s1 g1 x2 n2 r2 as2 ns2 s2 g2 :=
  ⟨t.same.trans s, t.k1.same s, t.k2.same s, t.ap, t.w1, t.w2⟩
theorem Two.op1 (t : Two C H0 H x1 n1 r1 as1 ns1 s1 g1 x2 n2 r2 as2 ns2 s2 g2) (o : Off (n1 :: r1 :: as1) H H') (k : Kept C H' x1 n1 r1 as' ns' s' g') (h : ∀ b ∈ as', b ∈ as1 ∨ H b = none) :
    Two C H0 H' x1 n1 r1 as' ns' s' g' x2 n2 r2 as2 ns2 s2 g2 := by
  have hm : ∀ b ∈ x1 :: n1 :: r1 :: as', b ∈ x1 :: n1 :: r1 :: as1 ∨ H b = none := fun b hb => by
    simp only [List.mem_cons] at hb ⊢
    rcases hb with e | e | e | e
    · exact .inl (.inl e)
    · exact .inl (.inr (.inl e))
    · exact .inl (.inr (.inr (.inl e)))
    · rcases h b e with e | e
      · exact .inl (.inr (.inr (.inr e)))
      · exact .inr e
  refine ⟨fun b u e => o.keep b u (t.same b u e) fun z => ?_, k, t.k2.off o fun b hb z => t.ap b (List.mem_cons_of_mem _ z) hb, fun b hb z => ?_, fun b hb => ?_, t.w2⟩
  · rw [t.w1 b (List.mem_cons_of_mem _ z)] at e; cases e
  · rcases hm b hb with q | q
    · exact t.ap b q z
    · obtain ⟨u, hu⟩ := t.k2.there z
      rw [hu] at q; cases q
  · rcases hm b hb with q | q
    · exact t.w1 b q
    · exact t.same.free q
theorem Two.op2 (t : Two C H0 H x1 n1 r1 as1 ns1 s1 g1 x2 n2 r2 as2 ns2 s2 g2) (o : Off (n2 :: r2 :: as2) H H') (k : Kept C H' x2 n2 r2 as' ns' s' g') (h : ∀ b ∈ as', b ∈ as2 ∨ H b = none) :
    Two C H0 H' x1 n1 r1 as1 ns1 s1 g1 x2 n2 r2 as' ns' s' g' := (t.swap.op1 o k h).swap
end
/-- v is the pair i, j -/
def PairOf (H : Hp) (v : V) (i j : Nat) : Prop := ∃ b, v = .ref b ∧ H b = some (.tup [.int ((i : Nat) : Int), .int ((j : Nat) : Int)])
theorem PairOf.inj {H : Hp} {v : V} {i j k l : Nat} (a : PairOf H v i j) (b : PairOf H v k l) : i = k ∧ j = l := by
  obtain ⟨p, e1, h1⟩ := a
  obtain ⟨q, e2, h2⟩ := b
  obtain rfl : p = q := V.ref.inj (e1.symm.trans e2)
  rw [h1] at h2
  have q1 := HO.tup.inj (Option.some.inj h2)
  simp only [List.cons.injEq, V.int.injEq] at q1
  omega
theorem PairOf.same {H H' : Hp} {v : V} {i j : Nat} (a : PairOf H v i j) (s : Same H H') : PairOf H' v i j := by
  obtain ⟨b, e, h⟩ := a
  exact ⟨b, e, s _ _ h⟩
/-! where a place stands in the second web -/
def pos (d j : Nat) : Nat := if j = 0 then 0 else j + d
theorem pos_inj {d i j : Nat} (h : pos d i = pos d j) : i = j := by
  unfold pos at h
  by_cases h1 : i = 0 <;> by_cases h2 : j = 0 <;> simp [h1, h2] at h <;> omega
theorem tie_keep {f g : Nat → Nat → Int} (hf : Sym f) (d p q a b : Nat) (h : g (pos d a) (pos d b) = f a b) : tieG (pos d p) (pos d q) (f p q) g (pos d a) (pos d b) = f a b := by
  unfold tieG
  by_cases h1 : pos d a = pos d q ∧ pos d b = pos d p
  · rw [if_pos h1, pos_inj h1.1, pos_inj h1.2]
    exact hf.turn p q
  · rw [if_neg h1]
    by_cases h2 : pos d a = pos d p ∧ pos d b = pos d q
    · rw [if_pos h2, pos_inj h2.1, pos_inj h2.2]
    · rw [if_neg h2, h]
theorem tie_new {f g : Nat → Nat → Int} (d p q : Nat) : tieG (pos d p) (pos d q) (f p q) g (pos d p) (pos d q) = f p q := by
  unfold tieG
  by_cases h1 : pos d p = pos d q ∧ pos d q = pos d p
  · rw [if_pos h1]
  · rw [if_neg h1, if_pos ⟨rfl, rfl⟩]
theorem tie_new2 {f g : Nat → Nat → Int} (d p q : Nat) : tieG (pos d p) (pos d q) (f p q) g (pos d q) (pos d p) = f p q := by
  unfold tieG
  rw [if_pos ⟨rfl, rfl⟩]
theorem tieG_turn (i j : Nat) (v : Int) (g : Nat → Nat → Int) : tieG i j v g = tieG j i v g := by
  funext a b
  unfold tieG
  by_cases h1 : a = j ∧ b = i <;> by_cases h2 : a = i ∧ b = j <;> simp [h1, h2]
theorem pos_zero (j : Nat) : pos 0 j = j := by
  unfold pos
  by_cases h : j = 0 <;> simp [h]
theorem skip_one (j : Nat) : skip 1 j = pos 1 j := by
  unfold skip pos
  by_cases h : j = 0
  · subst h; rfl
  · rw [if_neg (by omega), if_neg h]
/-- the names of the second web -/
def strangeL (m : Nat) (zm : Str) : List Str := if m < 8 then [zm] else []
theorem strangeL_le (m : Nat) (zm : Str) : (strangeL m zm).length ≤ 1 := by
  unfold strangeL
  split <;> simp
theorem names_at {z0 zm : Str} {T : List Str} {j : Nat} (h : j < T.length + 1) : (z0 :: (T ++ [zm]))[j]? = (z0 :: T)[j]? := by
  cases j with
  | zero => rfl
  | succ j =>
    show (T ++ [zm])[j]? = T[j]?
    rw [List.getElem?_append_left (by omega)]
theorem names_pos {z0 : Str} {S T : List Str} (j : Nat) : (z0 :: (S ++ T))[pos S.length j]? = (z0 :: T)[j]? := by
  cases j with
  | zero => rfl
  | succ j =>
    have e : pos S.length (j + 1) = (j + S.length) + 1 := by unfold pos; rw [if_neg (by omega)]; omega
    rw [e]
    show (S ++ T)[j + S.length]? = T[j]?
    rw [List.getElem?_append_right (by omega)]
    congr 1
    omega
theorem nodup_two {z0 zm : Str} {T : List Str} (m : Nat) (h : (z0 :: (T ++ [zm])).Nodup) : (z0 :: (strangeL m zm ++ T)).Nodup ∧ (z0 :: T).Nodup := by
  have h2 : (z0 :: T).Nodup := by
    refine List.Nodup.sublist ?_ h
    exact List.Sublist.cons_cons _ (List.sublist_append_left _ _)
  refine ⟨?_, h2⟩
  unfold strangeL
  split
  · refine (List.Perm.nodup_iff ?_).mp h
    exact List.Perm.cons _ List.perm_append_comm
  · exact h2
theorem take_in {L : List Str} (nd : L.Nodup) {k : Nat} {z : Str} (h : L[k]? = some z) : z ∉ L.take k ∧ L.take (k + 1) = L.take k ++ [z] := by
  obtain ⟨hk, e⟩ := List.getElem?_eq_some_iff.mp h
  refine ⟨fun hm => ?_, ?_⟩
  · obtain ⟨i, ei⟩ := List.mem_iff_getElem?.mp hm
    rw [List.getElem?_take] at ei
    by_cases hi : i < k
    · rw [if_pos hi] at ei
      exact absurd (nd_ix nd ei h) (Nat.ne_of_lt hi)
    · rw [if_neg hi] at ei; cases ei
  · rw [List.take_succ, h]; rfl
theorem str_at {L : List Str} {i : Nat} {v : V} (h : (L.map V.str)[i]? = some v) : ∃ z, v = .str z ∧ L[i]? = some z := by
  rw [List.getElem?_map] at h
  cases e : L[i]? with
  | none => rw [e] at h; cases h
  | some b => rw [e] at h; exact ⟨b, (Option.some.inj h).symm, rfl⟩
theorem str_to {L : List Str} {i : Nat} {z : Str} (h : L[i]? = some z) : (L.map V.str)[i]? = some (.str z) := by
  rw [List.getElem?_map, h]; rfl
theorem cut_str {L : List Str} {p q : Nat} {lo hi : Int} (e1 : lo = (p : Int)) (e2 : hi = (q : Int)) (h1 : p ≤ L.length) (h2 : q ≤ L.length) : cutV (L.map V.str) (some lo) (some hi) = ((L.drop p).take (q - p)).map V.str := by
  unfold cutV
  rw [e1, e2, HT.sIx_nat, HT.sIx_nat, List.length_map, Nat.min_eq_left h1, Nat.min_eq_left h2, List.map_take, List.map_drop]
end My

namespace My
open PySem PySem.Spec PyProof.Rows L2

theorem Kept.tup {C : Addr} {H H' : Hp} {x n r : Addr} {as : List Addr} {ns : List Str} {sz : Nat} {f : Nat → Nat → Int} (k : Kept C H x n r as ns sz f) (o : Off (n :: r :: as) H H') {a : Addr} {ys : List V} (h : H a = some (.tup ys)) : H' a = some (.tup ys) := by
  refine o.keep a _ h fun z => ?_
  simp only [List.mem_cons] at z
  rcases z with rfl | rfl | z
  · rw [k.nm] at h; cases h
  · rw [k.rl] at h; cases h
  · obtain ⟨i, e⟩ := List.mem_iff_getElem?.mp z
    rw [k.row i a e] at h; cases h
section
variable {P : Program} {w : World} {K : PySem.W.Frag} {mg : Str → Option Value} {base : Heap} {C : Addr}
def spTwo (K : PySem.W.Frag) (C : Addr) : Sp := fun vs H Q _ => ∃ (a nm tb pr : Addr) (ns : List Int) (z0 zm : Str) (T : List Str) (f : Nat → Nat → Int) (xs : List V), vs = [.ref a, .ref nm, .ref tb, .ref pr] ∧ SqL K H a (ns.map V.int) ∧ ns.length ≤ 63 ∧
  SqT K H nm ((z0 :: (T ++ [zm])).map V.str) ∧ (z0 :: (T ++ [zm])).Nodup ∧ T.length ≤ 7 ∧ TabAt false K H tb (T.length + 1) f ∧ Sym f ∧ H pr = some (.lst xs) ∧ xs.length ≤ 900 ∧
  (∀ v ∈ xs, ∃ i j, i < T.length + 1 ∧ j < T.length + 1 ∧ PairOf H v i j) ∧ (∀ i j, i < T.length + 1 → j < T.length + 1 → ∃ v ∈ xs, PairOf H v i j) ∧
  ∀ (H' : Hp) (p x1 n1 r1 x2 n2 r2 : Addr) (as1 as2 : List Addr), H p = none → H' p = some (.tup [.ref x1, .ref x2]) → Two C H H' x1 n1 r1 as1 (z0 :: T) (T.length + 1) f x2 n2 r2 as2 (z0 :: T) (T.length + 1) f → Q (.ref p) H'
abbrev nmTwo : List Str := ["script", "names", "table", "pairs", "many", "kept", "beside", "strange", "name", "k", "one", "other"]
theorem scTwo : FnScope nmTwo ["script", "names", "table", "pairs"] (defScope sTwo) := ⟨rfl, rfl, rfl, by decide +kernel, rfl, by decide +kernel, by decide +kernel⟩
theorem ok_two {f : Addr} {fd : FuncData} (F : Fun K "_law_two_kept" "_law_two_kept" sTwo f fd) (T0 : Ct K mg C) (B : Bi mg) (dI : Cdef P w K mg base C) (dP : Mdef P w K mg base C "put_place" 1 ["self", "name"] (spPut C))
    (dT : Mdef P w K mg base C "tie" 2 ["self", "one", "other", "weight"] (spTie C)) (dK : Mdef P w K mg base C "take_place" 2 ["self", "name"] (spTake C)) (dN : Def P w K mg base "_law_number" 1 ["script", "k"] (spNum K)) :
    FnOk P w K mg base CX0 3 f fd ["script", "names", "table", "pairs"] (spTwo K C) := by
  refine F.ok scTwo (fun vs H Q E h => ?_) (fun cdv A outer s H vs Q E hr h => ?_)
  · obtain ⟨a, nm, tb, pr, ns, z0, zm, T, f, xs, rfl, _⟩ := h
    rfl
  · obtain ⟨a, nm, tb, pr, ns, z0, zm, T, f, xs, rfl, hS, hl, hnm, hnd, hT, hTab, hf, hpr, hxl, hp1, hp2, hq⟩ := h
    have hr1 : Room 1 _ := hr.mono (by decide)
    refine ⟨_, pss_cons (ps_set (i := 4) scTwo.nd rfl (Or.inl rfl) (pe_callB (c_len (K := K)) (by rfl) B.len PySem.boot_len (pa_cons (pv 2) pa_nil)))
      (pss_cons (ps_set (i := 5) scTwo.nd rfl (Or.inl rfl) (dI.make hr rfl (pa_cons (pe_ix (ix_K (K := K) false) (pv 1) pe_int (fun _ _ => rfl)) pa_nil)))
      (pss_cons (ps_set (i := 6) scTwo.nd rfl (Or.inl rfl) (dI.make hr rfl (pa_cons (pe_ix (ix_K (K := K) false) (pv 1) pe_int (fun _ _ => rfl)) pa_nil)))
      (pss_cons (ps_set (i := 7) scTwo.nd rfl (Or.inl rfl) (pe_slice sl_tup (pv 1) (po_some (pv 4)) (po_some (pe_op op_add (pv 4) (pe_callTy call_int1 (by rfl) B.int (by decide +kernel) (pa_cons (pe_cmpR op_lt (pv 4) pe_int (nomark _)) pa_nil))))))
      (pss_cons (ps_for PassesOwn.never rfl (pi_tup (pv 7)) (pg_name (i := 8) scTwo.nd rfl (Or.inl rfl)) (pss_one (ps_expr (dP.call T0.cl hr1 (pv 6) (pa_cons (pv 8) pa_nil)))))
      (pss_cons (ps_for PassesOwn.never rfl (pi_tup (pe_slice sl_tup (pv 1) (po_some pe_int) (po_some (pv 4)))) (pg_name (i := 8) scTwo.nd rfl (Or.inl rfl))
        (pss_cons (ps_expr (dP.call T0.cl hr1 (pv 5) (pa_cons (pv 8) pa_nil))) (pss_one (ps_expr (dP.call T0.cl hr1 (pv 6) (pa_cons (pv 8) pa_nil))))))
      (pss_cons (ps_for PassesOwn.never rfl (pi_enum (by rfl) B.enumerate (pa_cons (pv 3) pa_nil)) (g_tup (K := K) rfl (pgs_cons (pg_name (i := 9) scTwo.nd rfl (Or.inl rfl)) (pgs_cons (g_tup (K := K) rfl (pgs_cons (pg_name (i := 10) scTwo.nd rfl (Or.inl rfl)) (pgs_cons (pg_name (i := 11) scTwo.nd rfl (Or.inl rfl)) pgs_nil))) pgs_nil)))
        (pss_cons (ps_for PassesOwn.never rfl (pi_tup (pv 7)) (pg_name (i := 8) scTwo.nd rfl (Or.inl rfl))
          (pss_one (ps_expr (dT.call T0.cl hr (pv 6) (pa_cons (pe_ix (ix_K (K := K) false) (pv 1) (pv 10) (fun _ _ => rfl)) (pa_cons (pv 8) (pa_cons (pe_op op_sub (pe_op op_mod (pv 9) pe_int) pe_int) pa_nil)))))))
        (pss_one (ps_expr (dT.call T0.cl hr (pv 6) (pa_cons (pe_ix (ix_K (K := K) false) (pv 1) (pv 11) (fun _ _ => rfl)) (pa_cons (pe_ix (ix_K (K := K) false) (pv 1) (pv 10) (fun _ _ => rfl))
          (pa_cons (pe_op op_sub (pe_op op_mod (dN.call hr1 rfl (pa_cons (pv 0) (pa_cons (pe_op op_add pe_int (pv 9)) pa_nil))) pe_int) pe_int) pa_nil))))))))
      (pss_cons (ps_for PassesOwn.never rfl (pi_list (pv 3)) (g_tup (K := K) rfl (pgs_cons (pg_name (i := 10) scTwo.nd rfl (Or.inl rfl)) (pgs_cons (pg_name (i := 11) scTwo.nd rfl (Or.inl rfl)) pgs_nil)))
        (pss_cons (ps_expr (dT.call T0.cl hr (pv 5) (pa_cons (pe_ix (ix_K (K := K) false) (pv 1) (pv 10) (fun _ _ => rfl)) (pa_cons (pe_ix (ix_K (K := K) false) (pv 1) (pv 11) (fun _ _ => rfl))
          (pa_cons (pe_ix (ix_K (K := K) false) (pe_ix (ix_K (K := K) false) (pv 2) (pv 10) (fun _ _ => rfl)) (pv 11) (fun _ _ => rfl)) pa_nil)))))
        (pss_one (ps_expr (dT.call T0.cl hr (pv 6) (pa_cons (pe_ix (ix_K (K := K) false) (pv 1) (pv 11) (fun _ _ => rfl)) (pa_cons (pe_ix (ix_K (K := K) false) (pv 1) (pv 10) (fun _ _ => rfl))
          (pa_cons (pe_ix (ix_K (K := K) false) (pe_ix (ix_K (K := K) false) (pv 2) (pv 10) (fun _ _ => rfl)) (pv 11) (fun _ _ => rfl)) pa_nil))))))))
      (pss_cons (ps_for PassesOwn.never rfl (pi_tup (pv 7)) (pg_name (i := 8) scTwo.nd rfl (Or.inl rfl)) (pss_one (ps_expr (dK.call T0.cl hr (pv 6) (pa_cons (pv 8) pa_nil)))))
      (pss_one (ps_ret (pe_tup (pa_cons (pv 5) (pa_cons (pv 6) pa_nil))))))))))))), ?_⟩
    obtain ⟨ta, t1, t2, t3⟩ := hTab.ex
    have hnl : (z0 :: (T ++ [zm])).length = T.length + 2 := by simp
    obtain ⟨nd2, nd1⟩ := nodup_two (T.length + 1) hnd
    have hz0 : ((z0 :: (T ++ [zm])).map V.str)[0]? = some (.str z0) := rfl
    -- many, the two objects
    refine ⟨_, rfl, tb, _, rfl, .inr t1, ?_⟩
    refine ⟨_, rfl, nm, _, 0, _, rfl, rfl, hnm, hz0, fun x1 d1 nx1 nd1' ne1 => ?_⟩
    refine ⟨x1, d1, z0, rfl, upd_same, fun H1 n1 r1 a1 o1 en1 er1 ea1 k1 => ⟨rfl, ?_⟩⟩
    have sA : Same H (upd (upd H d1 (.own x1)) x1 (.ins C d1 [])) := Same.newT (Same.new nd1') nx1
    have sB : Same H H1 := Off.sameIf o1 sA (by simp; exact nx1)
    have w1 : ∀ b ∈ x1 :: n1 :: r1 :: [a1], H b = none := fun b hb => by
      simp only [List.mem_cons, List.not_mem_nil, or_false] at hb
      rcases hb with e | e | e | e <;> rw [e]
      · exact nx1
      · exact sA.free en1
      · exact sA.free er1
      · exact sA.free ea1
    refine ⟨_, rfl, nm, _, 0, _, rfl, rfl, Same.sqT sB hnm, hz0, fun x2 d2 nx2 nd2' ne2 => ?_⟩
    refine ⟨x2, d2, z0, rfl, upd_same, fun H2 n2 r2 a2 o2 en2 er2 ea2 k2 => ⟨rfl, ?_⟩⟩
    have sC : Same H1 (upd (upd H1 d2 (.own x2)) x2 (.ins C d2 [])) := Same.newT (Same.new nd2') nx2
    have sD : Same H1 H2 := Off.sameIf o2 sC (by simp; exact nx2)
    have w2 : ∀ b ∈ x2 :: n2 :: r2 :: [a2], H1 b = none := fun b hb => by
      simp only [List.mem_cons, List.not_mem_nil, or_false] at hb
      rcases hb with e | e | e | e <;> rw [e]
      · exact nx2
      · exact sC.free en2
      · exact sC.free er2
      · exact sC.free ea2
    have ap0 : ∀ b ∈ x1 :: n1 :: r1 :: [a1], b ∉ x2 :: n2 :: r2 :: [a2] := fun b hb z => by
      obtain ⟨u, hu⟩ := k1.there hb
      rw [w2 b z] at hu
      cases hu
    have tw : Two C H H2 x1 n1 r1 [a1] [z0] 1 (fun _ _ => 0) x2 n2 r2 [a2] [z0] 1 (fun _ _ => 0) := ⟨sB.trans sD, k1.same sD, k2, ap0, w1, fun b hb => sB.free (w2 b hb)⟩
    -- strange
    have em : ((ta.map V.ref).length : Int) = ((T.length + 1 : Nat) : Int) := by rw [List.length_map, t2]
    refine ⟨_, rfl, _, rfl, _, rfl, _, rfl, _, rfl, _, _, rfl, rfl, .inr ⟨_, rfl, _, _, rfl, rfl, _, rfl, nm, _, rfl, Same.sqT tw.same hnm, ?_, fun sg nsg => ?_⟩⟩
    · rw [em, HT.sIx_nat, List.length_map, hnl]
      omega
    rw [em]
    have eS : cutV ((z0 :: (T ++ [zm])).map V.str) (some ((T.length + 1 : Nat) : Int)) (some (((T.length + 1 : Nat) : Int) + (if decide (((T.length + 1 : Nat) : Int) < 8) = true then 1 else 0))) = (strangeL (T.length + 1) zm).map V.str := by
      unfold strangeL
      by_cases h8 : T.length + 1 < 8
      · rw [if_pos h8, decide_eq_true (by omega), if_pos rfl, cut_str (q := T.length + 2) rfl (by omega) (by omega) (by omega)]
        congr 1
        have e1 : (z0 :: (T ++ [zm])).drop (T.length + 1) = [zm] := by
          show (T ++ [zm]).drop T.length = [zm]
          rw [List.drop_append, List.drop_length, Nat.sub_self]; rfl
        rw [e1]
        have e2 : T.length + 2 - (T.length + 1) = 1 := by omega
        rw [e2]; rfl
      · rw [if_neg h8, decide_eq_false (by omega), if_neg (by decide), cut_str (q := T.length + 1) rfl (by omega) (by omega) (by omega), Nat.sub_self]
        rfl
    rw [eS]
    have hS1 := strangeL_le (T.length + 1) zm
    clear eS
    generalize strangeL (T.length + 1) zm = S at nd2 hS1 ⊢
    have tw3 := tw.carry (Same.new (o := .tup (S.map V.str)) nsg)
    have hsg : (upd H2 sg (.tup (S.map V.str))) sg = some (.tup (S.map V.str)) := upd_same
    have hSat : ∀ {i : Nat} {z : Str}, S[i]? = some z → (z0 :: (S ++ T))[1 + i]? = some z := fun {i z} h => by
      rw [Nat.add_comm 1 i]
      show (S ++ T)[i]? = some z
      rw [List.getElem?_append_left (List.getElem?_eq_some_iff.mp h).1]
      exact h
    have hName : ∀ {p : Nat}, p < T.length + 1 → ∃ y, ((z0 :: (T ++ [zm])).map V.str)[p]? = some (.str y) ∧ (z0 :: T)[p]? = some y ∧ (z0 :: (S ++ T))[pos S.length p]? = some y := fun {p} hp => by
      have hl : p < (z0 :: T).length := hp
      refine ⟨(z0 :: T)[p], str_to ?_, List.getElem?_eq_getElem hl, ?_⟩
      · rw [names_at hp]; exact List.getElem?_eq_getElem hl
      · rw [names_pos]; exact List.getElem?_eq_getElem hl
    -- loop 1
    refine ⟨_, rfl, sg, rfl, ⟨_, SqT.of hsg⟩, ?_⟩
    refine for_tup (K := K) (a := sg) (xs := S.map V.str) (fun i σ H' => ∃ (as2 : List Addr) (g2 : Nat → Nat → Int) (v8 : Option V), σ = [some (.ref a), some (.ref nm), some (.ref tb), some (.ref pr), some (.int ((T.length + 1 : Nat) : Int)), some (.ref x1), some (.ref x2), some (.ref sg), v8, none, none, none] ∧
      H' sg = some (.tup (S.map V.str)) ∧ Two C H H' x1 n1 r1 [a1] [z0] 1 (fun _ _ => 0) x2 n2 r2 as2 ((z0 :: (S ++ T)).take (1 + i)) (1 + i) g2)
      ⟨[a2], fun _ _ => 0, none, rfl, hsg, tw3⟩ (fun i σ H' _ ⟨_, _, _, _, h, _⟩ => SqT.of h) ?_ ?_
    · rintro i v σ H' hi ⟨as2, g2, v8, rfl, hsg', tw⟩
      obtain ⟨z, rfl, hz⟩ := str_at hi
      have hil := (List.getElem?_eq_some_iff.mp hz).1
      obtain ⟨dx, hx⟩ := tw.k2.ins
      refine ⟨_, rfl, x2, dx, _, rfl, hx, flds_no n2 r2 (by decide +kernel) (by decide +kernel), _, rfl, x2, n2, r2, as2, _, 1 + i, g2, z, rfl, tw.k2, by omega, (take_in nd2 (hSat hz)).1, fun H'' b o eb k => ⟨as2 ++ [b], putG (1 + i) g2, _, rfl, tw.k2.tup o hsg', ?_⟩⟩
      have e := (take_in nd2 (hSat hz)).2
      rw [← e] at k
      exact tw.op2 o k fun c hc => by
        rcases List.mem_append.mp hc with q | q
        · exact .inl q
        · rw [List.mem_singleton.mp q]; exact .inr eb
    rintro σ H3 ⟨as2, g2, v8, rfl, hsg3, tw⟩
    rw [List.length_map] at tw
    -- loop 2
    refine ⟨_, rfl, _, rfl, _, rfl, _, rfl, nm, _, rfl, Same.sqT tw.same hnm, ?_, fun tg ntg => ⟨tg, rfl, ⟨_, SqT.of upd_same⟩, ?_⟩⟩
    · rw [show (1 : Int) = ((1 : Nat) : Int) from rfl, HT.sIx_nat, List.length_map, hnl]
      omega
    have eT : cutV ((z0 :: (T ++ [zm])).map V.str) (some 1) (some ((T.length + 1 : Nat) : Int)) = T.map V.str := by
      rw [cut_str (L := z0 :: (T ++ [zm])) (lo := 1) (p := 1) (q := T.length + 1) rfl rfl (by rw [hnl]; omega) (by rw [hnl]; omega)]
      congr 1
      show (T ++ [zm]).take T.length = T
      rw [List.take_append_of_le_length (Nat.le_refl _), List.take_length]
    rw [eT]
    have hTat : ∀ {i : Nat} {z : Str}, T[i]? = some z → (z0 :: T)[1 + i]? = some z := fun {i z} h => by
      rw [Nat.add_comm 1 i]; exact h
    have hTat2 : ∀ {i : Nat} {z : Str}, T[i]? = some z → (z0 :: (S ++ T))[1 + S.length + i]? = some z := fun {i z} h => by
      have e : 1 + S.length + i = (S.length + i) + 1 := by omega
      rw [e]
      show (S ++ T)[S.length + i]? = some z
      rw [List.getElem?_append_right (by omega)]
      have e2 : S.length + i - S.length = i := by omega
      rw [e2]; exact h
    have tw4 := tw.carry (Same.new (o := .tup (T.map V.str)) ntg)
    have hsg4 : (upd H3 tg (.tup (T.map V.str))) sg = some (.tup (S.map V.str)) := by rw [upd_ne (ne_of_none hsg3 ntg)]; exact hsg3
    have htg4 : (upd H3 tg (.tup (T.map V.str))) tg = some (.tup (T.map V.str)) := upd_same
    refine for_tup (K := K) (a := tg) (xs := T.map V.str) (fun i σ H' => ∃ (as1 as2 : List Addr) (g1 g2 : Nat → Nat → Int) (v8 : Option V), σ = [some (.ref a), some (.ref nm), some (.ref tb), some (.ref pr), some (.int ((T.length + 1 : Nat) : Int)), some (.ref x1), some (.ref x2), some (.ref sg), v8, none, none, none] ∧
      H' sg = some (.tup (S.map V.str)) ∧ H' tg = some (.tup (T.map V.str)) ∧ Two C H H' x1 n1 r1 as1 ((z0 :: T).take (1 + i)) (1 + i) g1 x2 n2 r2 as2 ((z0 :: (S ++ T)).take (1 + S.length + i)) (1 + S.length + i) g2)
      ⟨[a1], as2, _, g2, v8, rfl, hsg4, htg4, tw4⟩ (fun i σ H' _ ⟨_, _, _, _, _, _, _, h, _⟩ => SqT.of h) ?_ ?_
    · rintro i v σ H' hi ⟨as1, as2, g1, g2, v8, rfl, hsg', htg', tw⟩
      obtain ⟨z, rfl, hz⟩ := str_at hi
      have hil := (List.getElem?_eq_some_iff.mp hz).1
      obtain ⟨dx, hx⟩ := tw.k1.ins
      refine ⟨_, rfl, x1, dx, _, rfl, hx, flds_no n1 r1 (by decide +kernel) (by decide +kernel), _, rfl, x1, n1, r1, as1, _, 1 + i, g1, z, rfl, tw.k1, by omega, (take_in nd1 (hTat hz)).1, fun H'' b o eb k => ?_⟩
      have e := (take_in nd1 (hTat hz)).2
      rw [← e] at k
      have tw5 := tw.op1 o k fun c hc => by
        rcases List.mem_append.mp hc with q | q
        · exact .inl q
        · rw [List.mem_singleton.mp q]; exact .inr eb
      have hsg5 := tw.k1.tup o hsg'
      have htg5 := tw.k1.tup o htg'
      obtain ⟨dx2, hx2⟩ := tw5.k2.ins
      refine ⟨_, rfl, x2, dx2, _, rfl, hx2, flds_no n2 r2 (by decide +kernel) (by decide +kernel), _, rfl, x2, n2, r2, as2, _, 1 + S.length + i, g2, z, rfl, tw5.k2, by omega, (take_in nd2 (hTat2 hz)).1, fun H5 b2 o2 eb2 k2 => ?_⟩
      have e2 := (take_in nd2 (hTat2 hz)).2
      rw [← e2] at k2
      exact ⟨_, as2 ++ [b2], _, _, _, rfl, tw5.k2.tup o2 hsg5, tw5.k2.tup o2 htg5, tw5.op2 o2 k2 fun c hc => by
        rcases List.mem_append.mp hc with q | q
        · exact .inl q
        · rw [List.mem_singleton.mp q]; exact .inr eb2⟩
    rintro σ H4 ⟨as1, as2, g1, g2, v8, rfl, hsg5, htg5, tw⟩
    rw [List.length_map] at tw
    have eL1 : (z0 :: T).take (1 + T.length) = z0 :: T := List.take_of_length_le (by simp; omega)
    have eL2 : (z0 :: (S ++ T)).take (1 + S.length + T.length) = z0 :: (S ++ T) := List.take_of_length_le (by simp; omega)
    rw [eL1, eL2, Nat.add_comm 1 T.length, show 1 + S.length + T.length = T.length + 1 + S.length by omega] at tw
    clear tw4 tw3 hsg hsg3 hsg4 htg4 htg5
    -- loop 3
    refine ⟨_, rfl, pr, _, rfl, SqL.of (tw.same _ _ hpr), ?_⟩
    refine for_it (walk_enum (K := K) (a := pr) (xs := xs)) (fun i σ H' => ∃ (g2 : Nat → Nat → Int) (v8 v9 v10 v11 : Option V), σ = [some (.ref a), some (.ref nm), some (.ref tb), some (.ref pr), some (.int ((T.length + 1 : Nat) : Int)), some (.ref x1), some (.ref x2), some (.ref sg), v8, v9, v10, v11] ∧
      H' sg = some (.tup (S.map V.str)) ∧ Two C H H' x1 n1 r1 as1 (z0 :: T) (T.length + 1) g1 x2 n2 r2 as2 (z0 :: (S ++ T)) (T.length + 1 + S.length) g2)
      ⟨g2, v8, none, none, none, rfl, hsg5, tw⟩ (fun i σ H' _ ⟨_, _, _, _, _, _, _, h⟩ => SqL.of (h.same _ _ hpr)) ?_ ?_
    · rintro i v σ H' H5 hi ⟨g2, v8, v9, v10, v11, rfl, hsg', tw⟩ ⟨Tt, x, y, rfl, hTt, rfl, ex, hy⟩
      cases ex
      obtain ⟨p, q, hp, hq', b, rfl, hb⟩ := hp1 y (List.mem_of_getElem? hy)
      have sT : Same H' (upd H' Tt (.tup [.int (i : Nat), .ref b])) := Same.new hTt
      obtain ⟨yp, ep1, ep2, ep3⟩ := hName hp
      obtain ⟨yq, eq1, eq2, eq3⟩ := hName hq'
      refine ⟨Tt, _, rfl, SqT.of upd_same, rfl, _, _, rfl, _, _, rfl, b, _, rfl, SqT.of (sT _ _ (tw.same _ _ hb)), rfl, _, _, rfl, _, _, rfl, rfl, rfl, ?_⟩
      have tw6 := tw.carry sT
      refine ⟨_, rfl, sg, rfl, ⟨_, SqT.of (sT _ _ hsg')⟩, ?_⟩
      refine for_tup (K := K) (a := sg) (xs := S.map V.str) (fun t σ H' => ∃ (g2 : Nat → Nat → Int) (v8 : Option V), σ = [some (.ref a), some (.ref nm), some (.ref tb), some (.ref pr), some (.int ((T.length + 1 : Nat) : Int)), some (.ref x1), some (.ref x2), some (.ref sg), v8, some (.int (i : Nat)), some (.int (p : Nat)), some (.int (q : Nat))] ∧
        H' sg = some (.tup (S.map V.str)) ∧ Two C H H' x1 n1 r1 as1 (z0 :: T) (T.length + 1) g1 x2 n2 r2 as2 (z0 :: (S ++ T)) (T.length + 1 + S.length) g2)
        ⟨g2, v8, rfl, sT _ _ hsg', tw6⟩ (fun i σ H' _ ⟨_, _, _, h, _⟩ => SqT.of h) ?_ ?_
      · rintro t v σ H' ht ⟨g2, v8, rfl, hsg', tw⟩
        obtain ⟨z, rfl, hz⟩ := str_at ht
        obtain ⟨dx, hx⟩ := tw.k2.ins
        exact ⟨_, rfl, x2, dx, _, rfl, hx, flds_no n2 r2 (by decide +kernel) (by decide +kernel), _, rfl, _, rfl, nm, _, p, _, rfl, rfl, Same.sqT tw.same hnm, ep1, _, rfl, _, rfl, _, _, rfl, rfl, (by show (0 : Int) < 7; decide), _, _, rfl, rfl,
          x2, n2, r2, as2, _, _, g2, yp, z, _, _, _, rfl, tw.k2, ep3, hSat hz, fun H5 o k => ⟨_, _, rfl, tw.k2.tup o hsg', tw.op2 o k fun c hc => .inl hc⟩⟩
      · rintro σ H' ⟨g2, v8, rfl, hsg', tw⟩
        obtain ⟨dx, hx⟩ := tw.k2.ins
        refine ⟨_, rfl, x2, dx, _, rfl, hx, flds_no n2 r2 (by decide +kernel) (by decide +kernel), _, rfl, _, rfl, nm, _, q, _, rfl, rfl, Same.sqT tw.same hnm, eq1, _, rfl, _, rfl, nm, _, p, _, rfl, rfl, Same.sqT tw.same hnm, ep1,
          _, rfl, _, rfl, _, _, rfl, rfl, a, ns, _, rfl, tw.same.seq hS, hl, by omega, fun H5 nb s5 _ _ => ?_⟩
        have tw7 := tw.carry s5
        exact ⟨_, _, rfl, rfl, (by show (0 : Int) < 19; decide), _, _, rfl, rfl, x2, n2, r2, as2, _, _, g2, yq, yp, _, _, _, rfl, tw7.k2, eq3, ep3, fun H6 o k => ⟨_, _, _, _, _, rfl, tw7.k2.tup o (s5 _ _ hsg'), tw7.op2 o k fun c hc => .inl hc⟩⟩
    rintro σ H5 ⟨g2, v8, v9, v10, v11, rfl, hsg6, tw⟩
    -- loop 4
    refine ⟨_, rfl, pr, rfl, ⟨_, SqL.of (tw.same _ _ hpr)⟩, ?_⟩
    refine for_list (K := K) (a := pr) (xs := xs) (fun i σ H' => ∃ (g1 g2 : Nat → Nat → Int) (v8 v9 v10 v11 : Option V), σ = [some (.ref a), some (.ref nm), some (.ref tb), some (.ref pr), some (.int ((T.length + 1 : Nat) : Int)), some (.ref x1), some (.ref x2), some (.ref sg), v8, v9, v10, v11] ∧
      H' sg = some (.tup (S.map V.str)) ∧ Two C H H' x1 n1 r1 as1 (z0 :: T) (T.length + 1) g1 x2 n2 r2 as2 (z0 :: (S ++ T)) (T.length + 1 + S.length) g2 ∧
      ∀ (k : Nat) (v : V) (p q : Nat), k < i → xs[k]? = some v → PairOf H v p q → g1 (pos 0 p) (pos 0 q) = f p q ∧ g2 (pos S.length p) (pos S.length q) = f p q)
      ⟨g1, g2, v8, v9, v10, v11, rfl, hsg6, tw, fun k v p q hk => absurd hk (Nat.not_lt_zero k)⟩ (fun i σ H' _ ⟨_, _, _, _, _, _, _, _, h, _⟩ => SqL.of (h.same _ _ hpr)) ?_ ?_
    · rintro i v σ H' hi ⟨g1, g2, v8, v9, v10, v11, rfl, hsg', tw, hall⟩
      obtain ⟨p, q, hp, hq', hpair⟩ := hp1 v (List.mem_of_getElem? hi)
      obtain ⟨b, rfl, hb⟩ := id hpair
      obtain ⟨yp, ep1, ep2, ep3⟩ := hName hp
      obtain ⟨yq, eq1, eq2, eq3⟩ := hName hq'
      have et : ta[p]? = some (ta[p]'(by rw [t2]; exact hp)) := List.getElem?_eq_getElem _
      refine ⟨b, _, rfl, SqT.of (tw.same _ _ hb), rfl, _, _, rfl, _, _, rfl, rfl, ?_⟩
      obtain ⟨dx, hx⟩ := tw.k1.ins
      refine ⟨_, rfl, x1, dx, _, rfl, hx, flds_no n1 r1 (by decide +kernel) (by decide +kernel), _, rfl, _, rfl, nm, _, p, _, rfl, rfl, Same.sqT tw.same hnm, ep1, _, rfl, _, rfl, nm, _, q, _, rfl, rfl, Same.sqT tw.same hnm, eq1,
        _, rfl, _, rfl, tb, _, p, _, rfl, rfl, Same.sqT tw.same t1, ref_to et, _, rfl, _, _, q, _, rfl, rfl, Same.sqT tw.same (t3 p _ et), rowV_at hq',
        x1, n1, r1, as1, _, _, g1, yp, yq, p, q, f p q, rfl, tw.k1, ep2, eq2, fun H6 o k => ?_⟩
      have tw8 := tw.op1 o k fun c hc => .inl hc
      have hsg8 := tw.k1.tup o hsg'
      obtain ⟨dx2, hx2⟩ := tw8.k2.ins
      refine ⟨_, rfl, x2, dx2, _, rfl, hx2, flds_no n2 r2 (by decide +kernel) (by decide +kernel), _, rfl, _, rfl, nm, _, q, _, rfl, rfl, Same.sqT tw8.same hnm, eq1, _, rfl, _, rfl, nm, _, p, _, rfl, rfl, Same.sqT tw8.same hnm, ep1,
        _, rfl, _, rfl, tb, _, p, _, rfl, rfl, Same.sqT tw8.same t1, ref_to et, _, rfl, _, _, q, _, rfl, rfl, Same.sqT tw8.same (t3 p _ et), rowV_at hq',
        x2, n2, r2, as2, _, _, g2, yq, yp, pos S.length q, pos S.length p, f p q, rfl, tw8.k2, eq3, ep3, fun H7 o2 k2 => ⟨tieG p q (f p q) g1, tieG (pos S.length q) (pos S.length p) (f p q) g2, _, _, _, _, rfl, tw8.k2.tup o2 hsg8, tw8.op2 o2 k2 fun c hc => .inl hc, ?_⟩⟩
      intro k v p' q' hk hv hpq
      have e1 : tieG p q (f p q) g1 = tieG (pos 0 p) (pos 0 q) (f p q) g1 := by rw [pos_zero, pos_zero]
      rw [e1, tieG_turn (pos S.length q)]
      by_cases hki : k < i
      · obtain ⟨a1', a2'⟩ := hall k v p' q' hki hv hpq
        exact ⟨tie_keep hf 0 p q p' q' a1', tie_keep hf S.length p q p' q' a2'⟩
      · obtain rfl : k = i := by omega
        rw [hi] at hv
        cases hv
        obtain ⟨rfl, rfl⟩ := hpair.inj hpq
        exact ⟨tie_new 0 p q, tie_new S.length p q⟩
    rintro σ H6 ⟨g1, g2, v8, v9, v10, v11, rfl, hsg7, tw, hall⟩
    have good : ∀ i j, i < T.length + 1 → j < T.length + 1 → g1 (pos 0 i) (pos 0 j) = f i j ∧ g2 (pos S.length i) (pos S.length j) = f i j := fun i j hi hj => by
      obtain ⟨v, hv, hpq⟩ := hp2 i j hi hj
      obtain ⟨k, hk⟩ := List.mem_iff_getElem?.mp hv
      exact hall k v i j (List.getElem?_eq_some_iff.mp hk).1 hk hpq
    -- loop 5, the end
    have fin : ∀ (H7 : Hp) (as2' : List Addr) (g2' : Nat → Nat → Int), Two C H H7 x1 n1 r1 as1 (z0 :: T) (T.length + 1) g1 x2 n2 r2 as2' (z0 :: T) (T.length + 1) g2' → (∀ i j, i < T.length + 1 → j < T.length + 1 → g2' i j = f i j) →
        ∀ p, H7 p = none → Q (.ref p) (upd H7 p (.tup [.ref x1, .ref x2])) := fun H7 as2' g2' tw hg p np => by
      have tw9 := tw.carry (Same.new (o := .tup [.ref x1, .ref x2]) np)
      refine hq _ p x1 n1 r1 x2 n2 r2 as1 as2' (tw.same.free np) upd_same ⟨tw9.same, tw9.k1.congr fun i j hi hj => ?_, tw9.k2.congr hg, tw9.ap, tw9.w1, tw9.w2⟩
      have := (good i j hi hj).1
      rw [pos_zero, pos_zero] at this
      exact this
    refine ⟨_, rfl, sg, rfl, ⟨_, SqT.of hsg7⟩, ?_⟩
    cases S with
    | nil =>
      refine for_tup (K := K) (a := sg) (xs := ([] : List Str).map V.str) (fun i σ H' => H' = H6 ∧ σ = [some (.ref a), some (.ref nm), some (.ref tb), some (.ref pr), some (.int ((T.length + 1 : Nat) : Int)), some (.ref x1), some (.ref x2), some (.ref sg), v8, v9, v10, v11])
        ⟨rfl, rfl⟩ (fun i σ H' _ ⟨e, _⟩ => by rw [e]; exact SqT.of hsg7) (fun i v σ H' hi => by simp at hi) ?_
      rintro σ H' ⟨rfl, rfl⟩
      refine ⟨_, rfl, _, rfl, (by show 2 ≤ sizeLine; decide), fun p np => fin _ as2 g2 tw (fun i j hi hj => ?_) p np⟩
      have := (good i j hi hj).2
      rw [List.length_nil, pos_zero, pos_zero] at this
      exact this
    | cons zs S' =>
      obtain rfl : S' = [] := List.eq_nil_of_length_eq_zero (by rw [List.length_cons] at hS1; omega)
      refine for_tup (K := K) (a := sg) (xs := [zs].map V.str) (fun i σ H' => ∃ v8, σ = [some (.ref a), some (.ref nm), some (.ref tb), some (.ref pr), some (.int ((T.length + 1 : Nat) : Int)), some (.ref x1), some (.ref x2), some (.ref sg), v8, v9, v10, v11] ∧ H' sg = some (.tup ([zs].map V.str)) ∧
        ((i = 0 ∧ H' = H6) ∨ (i = 1 ∧ ∃ as2' g2', Two C H H' x1 n1 r1 as1 (z0 :: T) (T.length + 1) g1 x2 n2 r2 as2' (z0 :: T) (T.length + 1) g2' ∧ ∀ i j, i < T.length + 1 → j < T.length + 1 → g2' i j = f i j)))
        ⟨v8, rfl, hsg7, .inl ⟨rfl, rfl⟩⟩ (fun i σ H' _ ⟨_, _, h, _⟩ => SqT.of h) ?_ ?_
      · rintro i v σ H' hi ⟨v8, rfl, hsg', hh⟩
        have hi0 : i = 0 := by
          have := (List.getElem?_eq_some_iff.mp hi).1
          simpa using this
        subst hi0
        rcases hh with ⟨_, rfl⟩ | ⟨h1, _⟩
        · obtain rfl : V.str zs = v := by simpa using hi
          obtain ⟨dx, hx⟩ := tw.k2.ins
          refine ⟨_, rfl, x2, dx, _, rfl, hx, flds_no n2 r2 (by decide +kernel) (by decide +kernel), _, rfl, x2, n2, r2, as2, _, T.length + 1, g2, zs, 1, rfl, tw.k2, by omega, by omega, rfl, fun H7 o k => ⟨_, rfl, tw.k2.tup o hsg', .inr ⟨rfl, as2.eraseIdx 1, takeG 1 g2, tw.op2 o k fun c hc => .inl (List.mem_of_mem_eraseIdx hc), fun i j hi hj => ?_⟩⟩⟩
          unfold takeG
          rw [skip_one, skip_one]
          exact (good i j hi hj).2
        · omega
      · rintro σ H' ⟨v8, rfl, hsg', hh⟩
        rcases hh with ⟨h1, _⟩ | ⟨_, as2', g2', tw', hg⟩
        · simp at h1
        · exact ⟨_, rfl, _, rfl, (by show 2 ≤ sizeLine; decide), fun p np => fin _ as2' g2' tw' hg p np⟩
end
end My

/-! ### _law_anew -/
namespace My
open PySem PySem.Spec PyProof.Rows L2

theorem range_but (p : Nat) : ∀ n : Nat, (List.range n).filter (fun j => !decide (j = p)) = (List.range (if p < n then n - 1 else n)).map (skip p)
  | 0 => by simp
  | n + 1 => by
    rw [List.range_succ, List.filter_append, range_but p n]
    by_cases h1 : n = p
    · subst h1
      rw [if_neg (Nat.lt_irrefl n), if_pos (Nat.lt_succ_self n)]
      simp
    · have e : ([n] : List Nat).filter (fun j => !decide (j = p)) = [n] := by simp [h1]
      rw [e]
      by_cases h2 : p < n
      · rw [if_pos h2, if_pos (by omega)]
        obtain ⟨m, rfl⟩ : ∃ m, n = m + 1 := ⟨n - 1, by omega⟩
        have e2 : m + 1 + 1 - 1 = m + 1 := rfl
        rw [e2, List.range_succ, List.map_append, Nat.add_sub_cancel]
        congr 1
        show [m + 1] = [skip p m]
        unfold skip
        rw [if_neg (by omega)]
      · rw [if_neg h2, if_neg (by omega), List.range_succ, List.map_append]
        congr 1
        show [n] = [skip p n]
        unfold skip
        rw [if_pos (by omega)]
theorem range_getD {α : Type} (l : List α) (d : α) : (List.range l.length).map (fun i => l.getD i d) = l := by
  apply List.ext_getElem?
  intro i
  rw [List.getElem?_map]
  by_cases h : i < l.length
  · rw [List.getElem?_range h, List.getElem?_eq_getElem h]
    show some (l.getD i d) = _
    rw [List.getD_eq_getElem?_getD, List.getElem?_eq_getElem h]; rfl
  · rw [List.getElem?_eq_none (l := List.range l.length) (by rw [List.length_range]; omega), List.getElem?_eq_none (l := l) (by omega)]; rfl
theorem skip_lt {p j k : Nat} (h : j < k) : skip p j < k + 1 := by
  unfold skip
  split <;> omega
theorem Kept.sqT {K : PySem.W.Frag} {C : Addr} {H H' : Hp} {x n r : Addr} {as : List Addr} {ns : List Str} {sz : Nat} {f : Nat → Nat → Int} (k : Kept C H x n r as ns sz f) (o : Off (n :: r :: as) H H') {a : Addr} {ys : List V} (h : SqT K H a ys) : SqT K H' a ys := by
  have nl : ∀ u, H a = some u → (∀ zs, u ≠ .lst zs) → H' a = some u := fun u e ne => o.keep a u e fun z => by
    simp only [List.mem_cons] at z
    rcases z with rfl | rfl | z
    · rw [k.nm] at e; exact ne _ (Option.some.inj e).symm
    · rw [k.rl] at e; exact ne _ (Option.some.inj e).symm
    · obtain ⟨i, ei⟩ := List.mem_iff_getElem?.mp z
      rw [k.row i a ei] at e; exact ne _ (Option.some.inj e).symm
  rcases h with (h | ⟨ob, h⟩) | h
  · exact .inl (.inl (nl _ h fun zs q => nomatch q))
  · exact .inl (.inr ⟨ob, nl _ h fun zs q => nomatch q⟩)
  · exact .inr h
theorem Kept.tabT {K : PySem.W.Frag} {C : Addr} {H H' : Hp} {x n r : Addr} {as : List Addr} {ns : List Str} {sz m : Nat} {f g : Nat → Nat → Int} (k : Kept C H x n r as ns sz f) (o : Off (n :: r :: as) H H') {a : Addr} (h : TabAt false K H a m g) : TabAt false K H' a m g := by
  obtain ⟨ta, h1, h2, h3⟩ := h.ex
  exact ⟨ta, k.sqT o h1, h2, fun i b hb => k.sqT o (h3 i b hb)⟩
theorem Sym.small2 {f : Nat → Nat → Int} (s : Sym f) (k p n : Nat) : Small n (putG k (takeG p f)) := fun i j _ _ => by
  have h1 := s.lo (skip p i) (skip p j)
  have h2 := s.hi (skip p i) (skip p j)
  unfold putG takeG
  split
  · constructor <;> omega
  · constructor <;> decide
section
variable {P : Program} {w : World} {K : PySem.W.Frag} {mg : Str → Option Value} {base : Heap} {C : Addr}
def spAnew (K : PySem.W.Frag) (C : Addr) : Sp := fun vs H Q _ => ∃ (x n r nm tb : Addr) (as : List Addr) (L : List Str) (zm : Str) (k p m : Nat) (way : Int) (f : Nat → Nat → Int), vs = [.ref x, .ref nm, .ref tb, .int ((p : Nat) : Int), .int ((m : Nat) : Int), .int way] ∧
  Kept C H x n r as L (k + 1) f ∧ SqT K H nm ((L ++ [zm]).map V.str) ∧ TabAt false K H tb (k + 1) f ∧ Sym f ∧ 1 ≤ k ∧ k ≤ 800 ∧ p < k + 1 ∧ m ≤ 900 ∧ (∀ z ∈ L, PyData.strOk z = true) ∧
  ∀ H', Off (n :: r :: as) H H' → Q (.bl true) H'
abbrev nmAnew : List Str := ["kept", "names", "table", "at", "walk", "way", "left", "rows", "told", "place", "row"]
theorem scAnew : FnScope nmAnew ["kept", "names", "table", "at", "walk", "way"] (defScope sAnew) := ⟨rfl, rfl, rfl, by decide +kernel, rfl, by decide +kernel, by decide +kernel⟩
abbrev eRows : Expr := valE (nth (defBody sAnew) 3)
theorem ok_anew {f : Addr} {fd : FuncData} (F : Fun K "_law_anew" "_law_anew" sAnew f fd) (T0 : Ct K mg C) (B : Bi mg) (dP : Mdef P w K mg base C "put_place" 1 ["self", "name"] (spPut C))
    (dK : Mdef P w K mg base C "take_place" 2 ["self", "name"] (spTake C)) (dR : Def P w K mg base "_law_right" 6 ["kept", "web", "many", "way"] (spRight K C)) :
    FnOk P w K mg base CX0 7 f fd ["kept", "names", "table", "at", "walk", "way"] (spAnew K C) := by
  refine F.ok scAnew (fun vs H Q E h => ?_) (fun cdv A outer s H vs Q E hr h => ?_)
  · obtain ⟨x, n, r, nm, tb, as, L, zm, k, p, m, way, f, rfl, _⟩ := h
    rfl
  · obtain ⟨x, n, r, nm, tb, as, L, zm, k, p, m, way, f, rfl, kp, hnm, hTab, hf, hk1, hk2, hp, hm, hok, hq⟩ := h
    have hr1 : Room 1 _ := hr.mono (by decide)
    have hr2 : Room 2 _ := hr.mono (by decide)
    refine ⟨_, pss_cons (ps_expr (dK.call T0.cl hr2 (pv 0) (pa_cons (pe_ix (ix_K (K := K) false) (pv 1) (pv 3) (fun _ _ => rfl)) pa_nil)))
      (pss_cons (ps_expr (dP.call T0.cl hr1 (pv 0) (pa_cons (pe_ix (ix_K (K := K) false) (pv 1) (pv 3) (fun _ _ => rfl)) pa_nil)))
      (pss_cons (ps_set (i := 6) scAnew.nd rfl (Or.inr rfl) (pe_lc (own := [("place", 9)]) (g := gName 9) rfl scAnew.nd
          (pi_range1 rfl B.range (pa_cons (pe_callB (c_len (K := K)) (by rfl) B.len PySem.boot_len (pa_cons (pv 2) pa_nil)) pa_nil))
          (blkOk_by (own := [("place", 9)]) (N := nmAnew) (sc := defScope sAnew) (by decide +kernel)) (fun _ _ _ _ _ => pg_name (i := 9) scAnew.nd rfl (Or.inl rfl)) (fun _ _ _ _ _ => pts_one (pt_cmpR op_ne (pv 9) (pv 3) (nomark _)))
          (fun _ _ _ _ _ => pv 9)))
      (pss_cons (ps_setLc (i := 7) (own := [("row", 10)]) (g := gName 10) (tt := tYes) (by rfl) scAnew.nd rfl rfl (sw_true rfl rfl rfl (by decide +kernel)) (pi_K (K := K) true (pv 6))
          (blkOk_by (own := [("row", 10)]) (N := nmAnew) (sc := defScope sAnew) (by decide +kernel)) (fun _ _ _ _ _ => pg_name (i := 10) scAnew.nd rfl (Or.inr rfl)) (fun _ _ _ _ _ => pts_nil)
          (fun _ _ _ _ _ => pe_callTy (c_tup (K := K)) (by rfl) B.tuple (by decide +kernel) (pa_cons (pe_op op_cat
            (pe_lc (own := [("place", 9)]) (g := gName 9) (tt := tYes) rfl scAnew.nd (pi_K (K := K) true (pv 6))
              (blkOk_by (own := [("place", 9)]) (N := nmAnew) (sc := relS (lcSc eRows) (defScope sAnew)) (by decide +kernel)) (fun _ _ _ _ _ => pg_name (i := 9) scAnew.nd rfl (Or.inl rfl)) (fun _ _ _ _ _ => pts_nil)
              (fun _ _ _ _ _ => pe_ix (ix_K (K := K) false) (pe_ix (ix_K (K := K) false) (pv 2) (pv 10) (fun _ _ => rfl)) (pv 9) (fun _ _ => rfl)))
            (pe_lst (pa_cons pe_int pa_nil))) pa_nil)))
      (pss_cons (ps_expr (pe_bm PySem.F.plainAttrs_list PySem.F.slot_list_append PySem.F.type_list_append mt_append (pv 7) (pa_cons
          (pe_op op_repT (pe_tup (pa_cons pe_int pa_nil)) (pe_callB (c_len (K := K)) (by rfl) B.len PySem.boot_len (pa_cons (pv 2) pa_nil))) pa_nil)))
      (pss_cons (ps_set (i := 8) scAnew.nd rfl (Or.inl rfl) (pe_callTy (c_tup (K := K)) (by rfl) B.tuple (by decide +kernel) (pa_cons (pe_op op_cat
          (pe_lc (own := [("place", 9)]) (g := gName 9) (tt := tYes) rfl scAnew.nd (pi_K (K := K) true (pv 6))
            (blkOk_by (own := [("place", 9)]) (N := nmAnew) (sc := defScope sAnew) (by decide +kernel)) (fun _ _ _ _ _ => pg_name (i := 9) scAnew.nd rfl (Or.inl rfl)) (fun _ _ _ _ _ => pts_nil)
            (fun _ _ _ _ _ => pe_ix (ix_K (K := K) false) (pv 1) (pv 9) (fun _ _ => rfl)))
          (pe_lst (pa_cons (pe_ix (ix_K (K := K) false) (pv 1) (pv 3) (fun _ _ => rfl)) pa_nil))) pa_nil)))
      (pss_one (ps_ret (dR.call hr rfl (pa_cons (pv 0) (pa_cons (pe_tup (pa_cons (pv 8) (pa_cons (pe_callTy (c_tup (K := K)) (by rfl) B.tuple (by decide +kernel) (pa_cons (pv 7) pa_nil)) pa_nil))) (pa_cons (pv 4) (pa_cons (pv 5) pa_nil)))))))))))) , ?_⟩
    obtain ⟨ta, t1, t2, t3⟩ := hTab.ex
    have lL := kp.len
    have hpL : p < L.length := by omega
    have eL : L[p]? = some L[p] := List.getElem?_eq_getElem hpL
    have eN : ((L ++ [zm]).map V.str)[p]? = some (.str L[p]) := str_to (by rw [List.getElem?_append_left hpL]; exact eL)
    obtain ⟨dx, hx⟩ := kp.ins
    -- the place out, and in anew
    refine ⟨_, rfl, x, dx, _, rfl, hx, flds_no n r (by decide +kernel) (by decide +kernel), _, rfl, _, rfl, nm, _, p, _, rfl, rfl, hnm, eN, x, n, r, as, L, k, f, L[p], p, rfl, kp, hk1, by omega, eL, fun H1 o1 k1 => ?_⟩
    obtain ⟨dx1, hx1⟩ := k1.ins
    have hnm1 := kp.sqT o1 hnm
    have hTab1 := kp.tabT o1 hTab
    have hLp : L[p] ∉ L.eraseIdx p := fun hm => by
      obtain ⟨i, ei⟩ := List.mem_iff_getElem?.mp hm
      rw [ser] at ei
      have := nd_ix kp.ndn ei eL
      unfold skip at this
      split at this <;> omega
    refine ⟨_, rfl, x, dx1, _, rfl, hx1, flds_no n r (by decide +kernel) (by decide +kernel), _, rfl, _, rfl, nm, _, p, _, rfl, rfl, hnm1, eN, x, n, r, as.eraseIdx p, L.eraseIdx p, k, takeG p f, L[p], rfl, k1, by omega, hLp, fun H2 b o2 eb k2 => ?_⟩
    have hnm2 := k1.sqT o2 hnm1
    have hTab2 := k1.tabT o2 hTab1
    have oo : Off (n :: r :: as) H H2 := o1.trans (o2.mono fun c hc => by
      simp only [List.mem_cons] at hc ⊢
      rcases hc with e | e | e
      · exact .inl e
      · exact .inr (.inl e)
      · exact .inr (.inr (List.mem_of_mem_eraseIdx e)))
    obtain ⟨tb2, u1, u2, u3⟩ := hTab2.ex
    have ltb : ((tb2.map V.ref).length : Int) = ((k + 1 : Nat) : Int) := by rw [List.length_map, u2]
    clear hx hx1 o1 k1 o2 hnm1 hTab1 hnm hTab t1 t2 t3 kp hLp
    -- left
    refine ⟨_, rfl, tb, _, rfl, .inr u1, _, rfl, by omega, by omega, fun D nD => ?_⟩
    rw [ltb, Int.toNat_natCast]
    refine lc_it walk_range (Qd := fun H' => _) (fun i H3 => Same H2 H3 ∧ H3 D = some (.lst (((List.range i).filter fun j => !decide (j = p)).map fun (j : Nat) => V.int j))) ⟨Same.new nD, upd_same⟩ (fun _ _ _ _ => True.intro) ?_ ?_
    · rintro i v H3 H4 hi ⟨s3, hD⟩ ⟨rfl, rfl⟩
      refine ⟨rfl, _, rfl, _, rfl, rfl, _, rfl, ?_⟩
      have ei : decide (V.int (0 + (i : Int)) = V.int ((p : Nat) : Int)) = decide (i = p) := by
        apply decide_eq_decide.mpr
        constructor
        · intro q
          have := V.int.inj q
          omega
        · intro q
          rw [q, Int.zero_add]
      rw [ei]
      by_cases hip : i = p
      · rw [decide_eq_true hip]
        refine iteF ⟨s3, ?_⟩
        rw [hD, List.range_succ, List.filter_append]
        congr 3
        simp [hip]
      · rw [decide_eq_false hip]
        refine iteT ⟨_, rfl, _, hD, ?_, Same.newT s3 nD, ?_⟩
        · rw [List.length_map]
          exact small1000 (Nat.le_trans (List.length_filter_le _ _) (by rw [List.length_range]; omega))
        · rw [upd_same, List.range_succ, List.filter_append, List.map_append]
          congr 3
          simp [hip]
    rintro H3 ⟨s3, hD⟩
    rw [range_but, if_pos hp, Nat.add_sub_cancel, List.map_map] at hD
    have eleft : ∀ {i : Nat} {v : V}, ((List.range k).map ((fun (j : Nat) => V.int j) ∘ skip p))[i]? = some v → i < k ∧ v = .int ((skip p i : Nat) : Int) := fun {i v} h => by
      rw [List.getElem?_map] at h
      by_cases hi : i < k
      · rw [List.getElem?_range hi] at h
        exact ⟨hi, (Option.some.inj h).symm⟩
      · rw [List.getElem?_eq_none (l := List.range k) (by rw [List.length_range]; omega)] at h
        cases h
    have hll : ((List.range k).map ((fun (j : Nat) => V.int j) ∘ skip p)).length = k := by rw [List.length_map, List.length_range]
    -- rows
    refine ⟨_, rfl, D, rfl, ⟨_, SqL.of hD⟩, ?_⟩
    refine lc_obj (walk_K (k := true)) (fun i => .tup (rowV (k + 1) (putG k (takeG p f) i))) (by rw [hll]; omega) (fun H4 s => SqL.of (s _ _ hD)) ?_ ?_
    · rintro i v H4 H5 hi s4 ⟨rfl, hv⟩ R q1
      obtain ⟨hik, rfl⟩ := eleft hv
      have er : tb2[skip p i]? = some (tb2[skip p i]'(by rw [u2]; exact skip_lt hik)) := List.getElem?_eq_getElem _
      refine ⟨rfl, _, rfl, D, rfl, ⟨_, SqL.of (s4 _ _ hD)⟩, ?_⟩
      refine lc_val (walk_K (k := true)) (fun j => .int (f (skip p i) (skip p j))) (by rw [hll]; omega) (fun H6 s => SqL.of ((s4.trans s) _ _ hD)) ?_ ?_
      · rintro j v H6 H7 hj s6 ⟨rfl, hv⟩ R2 q2
        obtain ⟨hjk, rfl⟩ := eleft hv
        have sx := s3.trans (s4.trans s6)
        exact ⟨rfl, _, rfl, _, rfl, tb, _, skip p i, _, rfl, rfl, Same.sqT sx u1, ref_to er, _, rfl, _, _, skip p j, _, rfl, rfl, Same.sqT sx (u3 _ _ er), rowV_at (skip_lt hjk), q2 _ (Same.refl _)⟩
      · intro D2 H6 s6 hD2 hl2
        rw [hll] at hl2
        refine ⟨(by show 1 ≤ sizeLine; decide), fun o no => ?_⟩
        have s7 : Same H6 (upd H6 o (.lst [.int 0])) := Same.new no
        refine ⟨D2, o, _, _, rfl, rfl, s7 _ _ hl2, upd_same, by rw [List.length_map, List.length_range, sizeLine_eq]; show k + 1 ≤ _; omega, fun c nc => ?_⟩
        have s8 : Same H6 (upd (upd H6 o (.lst [.int 0])) c (.lst ((List.range k).map (fun j => V.int (f (skip p i) (skip p j))) ++ [.int 0]))) := Same.out s7 nc
        refine ⟨c, _, rfl, SqL.of upd_same, fun l nl => q1 l _ (Same.out (s6.trans s8) nl) ((s6.trans s8).free nl) ?_⟩
        rw [upd_same]
        have e9 : (List.range k).map (fun j => V.int (f (skip p i) (skip p j))) ++ [V.int 0] = rowV (k + 1) (fun j => if j < k then f (skip p i) (skip p j) else 0) := rowV_snoc k _ 0
        rw [e9]
        congr 2
        refine rowV_congr fun j _ => ?_
        unfold putG takeG
        by_cases hj : j < k
        · rw [if_pos hj, if_pos ⟨hik, hj⟩]
        · rw [if_neg hj, if_neg fun q => hj q.2]
    · intro D3 bs H4 ob
      rw [hll] at ob
      have s4 : Same H2 H4 := s3.trans ob.same
      -- rows.append((0,) * len(table))
      refine ⟨_, rfl, .inl ⟨rfl, _, SqL.of ob.dl⟩, (by show 1 ≤ sizeLine; decide), fun o no => ?_⟩
      have s5 : Same H4 (upd H4 o (.tup [.int 0])) := Same.new no
      refine ⟨_, rfl, tb, _, rfl, .inr (Same.sqT (s4.trans s5) u1), o, _, _, rfl, rfl, SqT.of upd_same, by simp, by omega, by omega, by show 1 ≤ 1000; decide, fun zr nz => ?_⟩
      rw [ltb, Int.toNat_natCast, rowV_zeros]
      have s6 : Same H4 (upd (upd H4 o (.tup [.int 0])) zr (.tup (rowV (k + 1) fun _ => 0))) := Same.out s5 nz
      have hzr : (upd (upd H4 o (.tup [.int 0])) zr (.tup (rowV (k + 1) fun _ => 0))) zr = some (.tup (rowV (k + 1) fun _ => 0)) := upd_same
      have ob6 := ob.carry s6
      refine ⟨D3, _, _, rfl, rfl, ob6.dl, by rw [List.length_map, ob.len]; exact small1000 (by omega), ?_⟩
      have nzr : zr ≠ D3 := fun z => by
        have := s5.free nz
        rw [z, ob.dl] at this; cases this
      -- the heap behind it
      have s7 : Same H2 (upd (upd (upd H4 o (.tup [.int 0])) zr (.tup (rowV (k + 1) fun _ => 0))) D3 (.lst (bs.map V.ref ++ [.ref zr]))) := Same.newT (s4.trans s6) (s3.free ob.dn)
      generalize hH5 : (upd (upd (upd H4 o (.tup [.int 0])) zr (.tup (rowV (k + 1) fun _ => 0))) D3 (.lst (bs.map V.ref ++ [.ref zr]))) = H5 at s7 ⊢
      have hD3 : H5 D3 = some (.lst ((bs ++ [zr]).map V.ref)) := by rw [← hH5, upd_same, List.map_append]; rfl
      have hrow : ∀ (i : Nat) (c : Addr), (bs ++ [zr])[i]? = some c → H5 c = some (.tup (rowV (k + 1) (putG k (takeG p f) i))) := fun i c hc => by
        rw [← hH5]
        by_cases hi : i < bs.length
        · rw [List.getElem?_append_left hi] at hc
          have hcD : c ≠ D3 := fun z => (List.nodup_cons.mp ob.nd).1 (z ▸ List.mem_of_getElem? hc)
          rw [upd_ne hcD]
          exact ob6.elt i c hc
        · rw [List.getElem?_append_right (by omega)] at hc
          have h0 : i - bs.length = 0 := by
            have := (List.getElem?_eq_some_iff.mp hc).1
            simpa using this
          rw [h0] at hc
          obtain rfl : zr = c := by simpa using hc
          rw [upd_ne nzr, hzr]
          congr 2
          refine rowV_congr fun j _ => ?_
          unfold putG
          rw [if_neg fun q => by have := ob.len; omega]
      have hD5 : H5 D = some (.lst ((List.range k).map ((fun (j : Nat) => V.int j) ∘ skip p))) := by
        rw [← hH5, upd_ne (ne_of_none hD ob.dn)]
        exact s6 _ _ (ob.same _ _ hD)
      -- told
      refine ⟨_, rfl, D, rfl, ⟨_, SqL.of hD5⟩, ?_⟩
      have lE : (L.eraseIdx p).length = k := by rw [List.length_eraseIdx, if_pos hpL, lL]; rfl
      refine lc_val (walk_K (k := true)) (fun i => ((L.eraseIdx p).map V.str).getD i .non) (by rw [hll]; omega) (fun H6 s => SqL.of (s _ _ hD5)) ?_ ?_
      · rintro i v H6 H7 hi s6' ⟨rfl, hv⟩ R q1
        obtain ⟨hik, rfl⟩ := eleft hv
        have sx := s7.trans s6'
        have hsk : skip p i < L.length := by have := skip_lt (p := p) hik; omega
        have e1 : (L.eraseIdx p)[i]? = some L[skip p i] := by rw [ser]; exact List.getElem?_eq_getElem hsk
        have e2 : ((L ++ [zm]).map V.str)[skip p i]? = some (.str L[skip p i]) := str_to (by rw [List.getElem?_append_left hsk]; exact List.getElem?_eq_getElem hsk)
        have e3 : ((L.eraseIdx p).map V.str).getD i .non = .str L[skip p i] := by rw [List.getD_eq_getElem?_getD, str_to e1]; rfl
        refine ⟨rfl, _, rfl, _, rfl, nm, _, skip p i, _, rfl, rfl, Same.sqT sx hnm2, e2, ?_⟩
        rw [← e3]
        exact q1 _ (Same.refl _)
      · intro D4 H6 s8 hD4 hl4
        have el4 : (List.range ((List.range k).map ((fun (j : Nat) => V.int j) ∘ skip p)).length).map (fun i => ((L.eraseIdx p).map V.str).getD i .non) = (L.eraseIdx p).map V.str := by
          have e0 : ((List.range k).map ((fun (j : Nat) => V.int j) ∘ skip p)).length = ((L.eraseIdx p).map V.str).length := by rw [hll, List.length_map, lE]
          rw [e0]
          exact range_getD _ _
        rw [el4] at hl4
        have s9 : Same H2 H6 := s7.trans s8
        refine ⟨_, rfl, _, rfl, nm, _, p, _, rfl, rfl, Same.sqT s9 hnm2, eN, (by show 1 ≤ sizeLine; decide), fun o2 no2 => ?_⟩
        have s10 : Same H6 (upd H6 o2 (.lst [.str L[p]])) := Same.new no2
        refine ⟨D4, o2, _, _, rfl, rfl, s10 _ _ hl4, upd_same, by rw [List.length_map, lE, sizeLine_eq]; show k + 1 ≤ _; omega, fun c nc => ?_⟩
        have s11 : Same H6 (upd (upd H6 o2 (.lst [.str L[p]])) c (.lst ((L.eraseIdx p).map V.str ++ [.str L[p]]))) := Same.out s10 nc
        refine ⟨c, _, rfl, SqL.of upd_same, fun tl ntl => ?_⟩
        have s12 : Same H6 (upd (upd (upd H6 o2 (.lst [.str L[p]])) c (.lst ((L.eraseIdx p).map V.str ++ [.str L[p]]))) tl (.tup ((L.eraseIdx p).map V.str ++ [.str L[p]]))) := Same.out s11 ntl
        have htl : (upd (upd (upd H6 o2 (.lst [.str L[p]])) c (.lst ((L.eraseIdx p).map V.str ++ [.str L[p]]))) tl (.tup ((L.eraseIdx p).map V.str ++ [.str L[p]]))) tl = some (.tup ((L.eraseIdx p ++ [L[p]]).map V.str)) := by rw [upd_same, List.map_append]; rfl
        generalize (upd (upd (upd H6 o2 (.lst [.str L[p]])) c (.lst ((L.eraseIdx p).map V.str ++ [.str L[p]]))) tl (.tup ((L.eraseIdx p).map V.str ++ [.str L[p]]))) = H7 at s12 htl ⊢
        have sD : Same H5 H7 := s8.trans s12
        have s13 : Same H2 H7 := s9.trans s12
        -- the web, the look
        refine ⟨_, rfl, _, rfl, _, rfl, D3, _, rfl, SqL.of (sD _ _ hD3), fun tt ntt => ⟨(by show 2 ≤ sizeLine; decide), fun wb nwb => ?_⟩⟩
        have s14 : Same H7 (upd H7 tt (.tup ((bs ++ [zr]).map V.ref))) := Same.new ntt
        have s15 : Same (upd H7 tt (.tup ((bs ++ [zr]).map V.ref))) (upd (upd H7 tt (.tup ((bs ++ [zr]).map V.ref))) wb (.tup [.ref tl, .ref tt])) := Same.new nwb
        have Wb : WebAt K (upd (upd H7 tt (.tup ((bs ++ [zr]).map V.ref))) wb (.tup [.ref tl, .ref tt])) wb (L.eraseIdx p ++ [L[p]]) (k + 1) (putG k (takeG p f)) :=
          ⟨⟨tl, tt, SqT.of upd_same, SqT.of (s15 _ _ (s14 _ _ htl)), ⟨bs ++ [zr], SqT.of (s15 _ _ upd_same), by rw [List.length_append, ob.len]; rfl, fun i c hc => SqT.of (s15 _ _ (s14 _ _ (sD _ _ (hrow i c hc))))⟩⟩, by rw [List.length_append, lE]; rfl⟩
        refine ⟨_, rfl, _, rfl, x, n, r, _, _, k + 1, _, wb, m, way, rfl, k2.same (s13.trans (s14.trans s15)), Wb, by omega, hm, hf.small2 k p (k + 1), fun z hz => ?_, fun H8 s16 => hq H8 (oo.trans (Off.same ((s13.trans (s14.trans s15)).trans s16)))⟩
        rcases List.mem_append.mp hz with q | q
        · exact hok z (List.mem_of_mem_eraseIdx q)
        · rw [List.mem_singleton.mp q]; exact hok _ (List.getElem_mem hpL)
end
end My

/-! ### law -/
namespace My
open PySem PySem.Spec PyProof.Rows L2

theorem tieG_at (p q : Nat) (v : Int) (f : Nat → Nat → Int) : tieG p q v f p q = v := by
  unfold tieG
  by_cases h1 : p = q ∧ q = p
  · rw [if_pos h1]
  · rw [if_neg h1, if_pos ⟨rfl, rfl⟩]
theorem PairOf.put {H : Hp} {v : V} {i j : Nat} {P : Addr} {xs ys : List V} (a : PairOf H v i j) (h : H P = some (.lst xs)) : PairOf (upd H P (.lst ys)) v i j := by
  obtain ⟨b, e, hb⟩ := a
  refine ⟨b, e, ?_⟩
  rw [upd_ne (ne_of hb h fun q => nomatch q)]
  exact hb
theorem cut_head {L : List Str} {zm : Str} {m : Int} (e : m = ((L.length : Nat) : Int)) : cutV ((L ++ [zm]).map V.str) none (some m) = L.map V.str := by
  unfold cutV
  rw [HT.sIx_none, e, HT.sIx_nat, List.length_map, List.length_append, Nat.min_eq_left (Nat.le_add_right _ _), List.drop_zero, Nat.sub_zero, ← List.map_take, List.take_append_of_le_length (Nat.le_refl _), List.take_length]
theorem names_split {zs : List Str} {m : Nat} (h : zs.length = m + 1) (hm : 1 ≤ m) : ∃ z0 T zm, zs = z0 :: (T ++ [zm]) ∧ T.length + 1 = m := by
  cases zs with
  | nil => simp at h
  | cons z0 r =>
    rcases List.eq_nil_or_concat r with rfl | ⟨T, zm, rfl⟩
    · simp at h; omega
    · refine ⟨z0, T, zm, by rw [List.concat_eq_append], ?_⟩
      simp at h
      omega
theorem two_at (c : Bool) : ∃ (j : Nat) (v : Int), (if c = true then (1 : Int) else 0) = (j : Int) ∧ ([V.int 5, V.int (-7)] : List V)[j]? = some (.int v) ∧ -99 ≤ v ∧ v ≤ 99 := by
  cases c
  · exact ⟨0, 5, rfl, rfl, by decide, by decide⟩
  · exact ⟨1, -7, rfl, rfl, by decide, by decide⟩
theorem web_mk {K : PySem.W.Frag} {H : Hp} {tl tb wb : Addr} {L : List Str} {m : Nat} {f : Nat → Nat → Int} (h1 : H wb = some (.tup [.ref tl, .ref tb])) (h2 : SqT K H tl (L.map V.str)) (h3 : TabAt false K H tb m f) (h4 : L.length = m) : WebAt K H wb L m f :=
  ⟨⟨tl, tb, SqT.of h1, h2, h3⟩, h4⟩
section
variable {P : Program} {w : World} {K : PySem.W.Frag} {mg : Str → Option Value} {base : Heap} {C : Addr}
def spLaw (K : PySem.W.Frag) : Sp := fun vs H Q _ => ∃ (a : Addr) (ns : List Int), vs = [.ref a] ∧ SqL K H a (ns.map V.int) ∧ ns.length ≤ 63 ∧ ∀ H', Q (.bl true) H'
abbrev nmLaw : List Str := ["script", "many", "table", "names", "pairs", "one", "other", "kept", "beside", "walk", "way", "web", "at"]
theorem scLaw : FnScope nmLaw ["script"] (defScope sLaw) := ⟨rfl, rfl, rfl, by decide +kernel, rfl, by decide +kernel, by decide +kernel⟩
theorem ok_law {f : Addr} {fd : FuncData} (F : Fun K "law" "law" sLaw f fd) (T0 : Ct K mg C) (B : Bi mg)
    (dN : Def P w K mg base "_law_number" 1 ["script", "k"] (spNum K)) (dT : Def P w K mg base "_law_table" 2 ["script", "start", "many", "kinds", "own"] (spTable K))
    (dM : Def P w K mg base "_law_names" 2 ["script", "start", "many"] (spNames K)) (dU : Def P w K mg base "_law_turned" 1 ["number", "things"] (spTurned K))
    (d2 : Def P w K mg base "_law_two_kept" 3 ["script", "names", "table", "pairs"] (spTwo K C)) (dR : Def P w K mg base "_law_right" 6 ["kept", "web", "many", "way"] (spRight K C))
    (dW : Def P w K mg base "_law_weighed" 1 ["table", "one", "other", "weight"] (spWeigh K)) (dA : Def P w K mg base "_law_anew" 7 ["kept", "names", "table", "at", "walk", "way"] (spAnew K C))
    (dTie : Mdef P w K mg base C "tie" 2 ["self", "one", "other", "weight"] (spTie C)) : FnOk P w K mg base CX0 8 f fd ["script"] (spLaw K) := by
  refine F.ok scLaw (fun vs H Q E h => ?_) (fun cdv A outer s H vs Q E hr h => ?_)
  · obtain ⟨a, ns, rfl, _⟩ := h
    rfl
  · obtain ⟨a, ns, rfl, hS, hl, hq⟩ := h
    have hr1 : Room 1 _ := hr.mono (by decide)
    have hr2 : Room 2 _ := hr.mono (by decide)
    have hr3 : Room 3 _ := hr.mono (by decide)
    have hr6 : Room 6 _ := hr.mono (by decide)
    refine ⟨_, pss_cons (ps_set (i := 1) scLaw.nd rfl (Or.inl rfl) (pe_op op_add pe_int (pe_op op_mod (dN.call hr1 rfl (pa_cons (pv 0) (pa_cons pe_int pa_nil))) pe_int)))
      (pss_cons (ps_set (i := 2) scLaw.nd rfl (Or.inl rfl) (dT.call hr2 rfl (pa_cons (pv 0) (pa_cons pe_int (pa_cons (pv 1) (pa_cons (pe_tup (pa_cons pe_str (pa_cons pe_str (pa_cons pe_str (pa_cons pe_str pa_nil))))) (pa_cons pe_bl pa_nil)))))))
      (pss_cons (ps_set (i := 3) scLaw.nd rfl (Or.inl rfl) (dM.call hr2 rfl (pa_cons (pv 0) (pa_cons pe_int (pa_cons (pe_op op_add (pv 1) pe_int) pa_nil)))))
      (pss_cons (ps_set (i := 4) scLaw.nd rfl (Or.inl rfl) (pe_lst pa_nil))
      (pss_cons (ps_for PassesOwn.never rfl (pi_range1 (by rfl) B.range (pa_cons (pv 1) pa_nil)) (pg_name (i := 5) scLaw.nd rfl (Or.inr rfl))
        (pss_one (ps_expr (pe_bm PySem.F.plainAttrs_list PySem.F.slot_list_extend PySem.F.type_list_extend mt_extend (pv 4) (pa_cons
          (pe_lc (own := [("other", 6)]) (g := gName 6) (tt := tYes) rfl scLaw.nd (pi_range1 rfl B.range (pa_cons (pv 1) pa_nil))
            (blkOk_by (own := [("other", 6)]) (N := nmLaw) (sc := defScope sLaw) (by decide +kernel)) (fun _ _ _ _ _ => pg_name (i := 6) scLaw.nd rfl (Or.inl rfl)) (fun _ _ _ _ _ => pts_nil)
            (fun _ _ _ _ _ => pe_tup (pa_cons (pv 5) (pa_cons (pv 6) pa_nil)))) pa_nil)))))
      (pss_cons (ps_set (i := 4) scLaw.nd rfl (Or.inl rfl) (dU.call hr1 rfl (pa_cons (dN.call hr1 rfl (pa_cons (pv 0) (pa_cons pe_int pa_nil))) (pa_cons (pv 4) pa_nil))))
      (pss_cons (ps_asg (d2.call hr3 rfl (pa_cons (pv 0) (pa_cons (pv 3) (pa_cons (pv 2) (pa_cons (pv 4) pa_nil))))) (g_tup (K := K) rfl (pgs_cons (pg_name (i := 7) scLaw.nd rfl (Or.inl rfl)) (pgs_cons (pg_name (i := 8) scLaw.nd rfl (Or.inl rfl)) pgs_nil))))
      (pss_cons (ps_set (i := 9) scLaw.nd rfl (Or.inl rfl) (pe_op op_mod (dN.call hr1 rfl (pa_cons (pv 0) (pa_cons pe_int pa_nil))) pe_int))
      (C8.pss_cut (ps_if (pt_cmpR op_eq (pe_op op_mod (pe_op op_fdiv (dN.call hr1 rfl (pa_cons (pv 0) (pa_cons pe_int pa_nil))) pe_int) pe_int) pe_int (nomark _))
          (pss_one (ps_set (i := 9) scLaw.nd rfl (Or.inl rfl) (pe_op op_mod (dN.call hr1 rfl (pa_cons (pv 0) (pa_cons pe_int pa_nil))) pe_int))) pss_nil)
      (pss_cons (ps_set (i := 10) scLaw.nd rfl (Or.inl rfl) (dN.call hr1 rfl (pa_cons (pv 0) (pa_cons pe_int pa_nil))))
      (pss_cons (ps_set (i := 11) scLaw.nd rfl (Or.inl rfl) (pe_tup (pa_cons (pe_slice sl_tup (pv 3) po_none (po_some (pv 1))) (pa_cons (pv 2) pa_nil))))
      (pss_cons (ps_if (PW.pt (pw_or (pt_not (pt_val (dR.call hr6 rfl (pa_cons (pv 7) (pa_cons (pv 11) (pa_cons (pv 9) (pa_cons (pv 10) pa_nil))))) (by intro _; rfl)))
          (pw_or1 (pt_not (pt_val (dR.call hr6 rfl (pa_cons (pv 8) (pa_cons (pv 11) (pa_cons (pv 9) (pa_cons (pe_op op_fdiv (pv 10) pe_int) pa_nil))))) (by intro _; rfl)))))) (pss_one (ps_ret pe_bl)) pss_nil)
      (pss_cons (ps_asg (pe_ix (ix_K (K := K) true) (pv 4) pe_int (fun _ _ => rfl)) (g_tup (K := K) rfl (pgs_cons (pg_name (i := 5) scLaw.nd rfl (Or.inr rfl)) (pgs_cons (pg_name (i := 6) scLaw.nd rfl (Or.inl rfl)) pgs_nil))))
      (pss_cons (ps_set (i := 2) scLaw.nd rfl (Or.inl rfl) (dW.call hr1 rfl (pa_cons (pv 2) (pa_cons (pv 5) (pa_cons (pv 6) (pa_cons
          (pe_ix (ix_K (K := K) true) (pe_lst (pa_cons pe_int (pa_cons (pe_un un_neg pe_int) pa_nil))) (pe_callTy call_int1 (by rfl) B.int (by decide +kernel) (pa_cons (pe_cmpR op_gt (pe_ix (ix_K (K := K) false) (pe_ix (ix_K (K := K) false) (pv 2) (pv 5) (fun _ _ => rfl)) (pv 6) (fun _ _ => rfl)) pe_int (nomark _)) pa_nil)) (fun _ _ => rfl)) pa_nil))))))
      (pss_cons (ps_set (i := 11) scLaw.nd rfl (Or.inl rfl) (pe_tup (pa_cons (pe_slice sl_tup (pv 3) po_none (po_some (pv 1))) (pa_cons (pv 2) pa_nil))))
      (pss_cons (ps_expr (dTie.call T0.cl hr2 (pv 7) (pa_cons (pe_ix (ix_K (K := K) false) (pv 3) (pv 5) (fun _ _ => rfl)) (pa_cons (pe_ix (ix_K (K := K) false) (pv 3) (pv 6) (fun _ _ => rfl))
          (pa_cons (pe_ix (ix_K (K := K) false) (pe_ix (ix_K (K := K) false) (pv 2) (pv 5) (fun _ _ => rfl)) (pv 6) (fun _ _ => rfl)) pa_nil)))))
      (pss_cons (ps_expr (dTie.call T0.cl hr2 (pv 8) (pa_cons (pe_ix (ix_K (K := K) false) (pv 3) (pv 6) (fun _ _ => rfl)) (pa_cons (pe_ix (ix_K (K := K) false) (pv 3) (pv 5) (fun _ _ => rfl))
          (pa_cons (pe_ix (ix_K (K := K) false) (pe_ix (ix_K (K := K) false) (pv 2) (pv 5) (fun _ _ => rfl)) (pv 6) (fun _ _ => rfl)) pa_nil)))))
      (pss_cons (ps_if (PW.pt (pw_or (pt_not (pt_val (dR.call hr6 rfl (pa_cons (pv 7) (pa_cons (pv 11) (pa_cons (pv 9) (pa_cons (pe_op op_fdiv (pv 10) pe_int) pa_nil))))) (by intro _; rfl)))
          (pw_or1 (pt_not (pt_val (dR.call hr6 rfl (pa_cons (pv 8) (pa_cons (pv 11) (pa_cons (pv 9) (pa_cons (pe_op op_fdiv (pv 10) pe_int) pa_nil))))) (by intro _; rfl)))))) (pss_one (ps_ret pe_bl)) pss_nil)
      (pss_cons (ps_set (i := 12) scLaw.nd rfl (Or.inl rfl) (pe_op op_mod (dN.call hr1 rfl (pa_cons (pv 0) (pa_cons pe_int pa_nil))) (pv 1)))
      (pss_cons (ps_if (PW.pt (pw_and (pt_cmpR op_gt (pv 1) pe_int (nomark _)) (pw_and1 (pt_not (pt_val (dA.call hr rfl (pa_cons (pv 7) (pa_cons (pv 3) (pa_cons (pv 2) (pa_cons (pv 12) (pa_cons (pv 9) (pa_cons (pe_op op_fdiv (pv 10) pe_int) pa_nil))))))) (by intro _; rfl)))))) (pss_one (ps_ret pe_bl)) pss_nil)
      (pss_one (ps_ret (dR.call hr6 rfl (pa_cons (pv 8) (pa_cons (pv 11) (pa_cons (pv 9) (pa_cons pe_int pa_nil)))))))))))))))))))))))))), ?_⟩
    -- many
    refine ⟨_, rfl, a, ns, 0, rfl, hS, hl, by decide, fun H1 m1 s1 b1 b2 => ?_⟩
    obtain ⟨m, em, hm1, hm2⟩ : ∃ m : Nat, 1 + m1 % 8 = ((m : Nat) : Int) ∧ 1 ≤ m ∧ m ≤ 8 := by
      have h1 := Int.emod_nonneg m1 (show (8 : Int) ≠ 0 by decide)
      have h2 := Int.emod_lt_of_pos m1 (show (0 : Int) < 8 by decide)
      exact ⟨(1 + m1 % 8).toNat, by omega, by omega, by omega⟩
    refine ⟨_, _, rfl, rfl, (by show (0 : Int) < 8; decide), _, _, rfl, rfl, ?_⟩
    show gName 1 (V.int (1 + m1 % 8)) _ _ _
    rw [em]
    -- table
    refine ⟨_, rfl, _, rfl, (by show 4 ≤ sizeLine; decide), fun q nq => ?_⟩
    have sA : Same H (upd H1 q (.tup kindsV)) := s1.trans (Same.new nq)
    refine ⟨a, q, ns, 20, m, rfl, sA.seq hS, hl, by decide, by omega, SqT.of upd_same, fun H2 tb f s2 Tb hf => ?_⟩
    have sB : Same H H2 := sA.trans s2
    -- names
    refine ⟨_, rfl, _, rfl, _, _, rfl, rfl, a, ns, 1, m + 1, rfl, sB.seq hS, hl, by decide, by omega, fun H3 nm zs s3 hz lz ndz okz => ?_⟩
    obtain ⟨z0, T, zm, rfl, hTm⟩ := names_split lz hm1
    subst hTm
    have Tb3 := Same.tab s3 Tb
    have hnm3 : SqT K H3 nm ((z0 :: (T ++ [zm])).map V.str) := SqT.of hz
    have sC : Same H H3 := sB.trans s3
    clear Tb sA sB s1 s2 s3
    -- pairs
    refine ⟨(by show 0 ≤ sizeLine; decide), fun pr npr => ?_⟩
    refine ⟨_, rfl, _, rfl, by omega, by omega, ?_⟩
    rw [Int.toNat_natCast]
    refine for_range (lo := 0) (n := T.length + 1) (fun i σ H' => ∃ (v5 : Option V) (xs : List V), σ = [some (.ref a), some (.int ((T.length + 1 : Nat) : Int)), some (.ref tb), some (.ref nm), some (.ref pr), v5, none, none, none, none, none, none, none] ∧ Same H3 H' ∧ H' pr = some (.lst xs) ∧
      xs.length = i * (T.length + 1) ∧ (∀ v ∈ xs, ∃ p q, p < T.length + 1 ∧ q < T.length + 1 ∧ PairOf H' v p q) ∧ ∀ p q, p < i → q < T.length + 1 → ∃ v ∈ xs, PairOf H' v p q)
      ⟨none, [], rfl, Same.new npr, upd_same, by simp, by simp, fun p q hp => absurd hp (Nat.not_lt_zero p)⟩ ?_ ?_
    · rintro i σ H4 hi ⟨v5, xs, rfl, s4, hpr, lx, hx1, hx2⟩
      refine ⟨_, rfl, .inl ⟨rfl, _, SqL.of hpr⟩, _, rfl, _, rfl, by omega, by omega, ?_⟩
      rw [Int.toNat_natCast]
      refine lc_obj walk_range (fun j => .tup [.int (0 + (i : Int)), .int (0 + (j : Int))]) (by omega) (fun _ _ => True.intro) ?_ ?_
      · rintro j x H5 H6 hj s5 ⟨rfl, rfl⟩ R q1
        exact ⟨rfl, _, rfl, _, rfl, (by show 2 ≤ sizeLine; decide), fun t nt => q1 t _ (Same.new nt) nt upd_same⟩
      · intro D bs H5 ob
        have hpr5 := ob.same _ _ hpr
        have hmul : (i + 1) * (T.length + 1) ≤ 8 * 8 := Nat.mul_le_mul (by omega) (by omega)
        have hmul2 : (i + 1) * (T.length + 1) = i * (T.length + 1) + (T.length + 1) := Nat.succ_mul _ _
        have hbp : ∀ (j : Nat) (b : Addr), bs[j]? = some b → PairOf H5 (.ref b) i j := fun j b hb => ⟨b, rfl, by
          rw [← int_zero_add i, ← int_zero_add j]
          exact ob.elt j b hb⟩
        refine ⟨pr, D, xs, _, rfl, rfl, hpr5, ob.dl, ?_, _, xs ++ bs.map V.ref, rfl, Same.newT (s4.trans ob.same) npr, upd_same, ?_, fun v hv => ?_, fun p q hp hq' => ?_⟩
        · rw [List.length_map, ob.len, lx, sizeLine_eq]; omega
        · rw [List.length_append, List.length_map, ob.len, lx, hmul2]
        · rcases List.mem_append.mp hv with e | e
          · obtain ⟨p, q, h1, h2, h3⟩ := hx1 v e
            exact ⟨p, q, h1, h2, (h3.same ob.same).put hpr5⟩
          · obtain ⟨b, hb, rfl⟩ := List.mem_map.mp e
            obtain ⟨j, ej⟩ := List.mem_iff_getElem?.mp hb
            have hj : j < T.length + 1 := ob.len ▸ (List.getElem?_eq_some_iff.mp ej).1
            exact ⟨i, j, hi, hj, (hbp j b ej).put hpr5⟩
        · by_cases hpi : p < i
          · obtain ⟨v, hv, h3⟩ := hx2 p q hpi hq'
            exact ⟨v, List.mem_append_left _ hv, (h3.same ob.same).put hpr5⟩
          · obtain rfl : p = i := by omega
            have eb : bs[q]? = some (bs[q]'(by rw [ob.len]; exact hq')) := List.getElem?_eq_getElem _
            exact ⟨.ref _, List.mem_append_right _ (List.mem_map.mpr ⟨_, List.getElem_mem _, rfl⟩), (hbp q _ eb).put hpr5⟩
    rintro σ H4 ⟨v5, xs, rfl, s4, hpr, lx, hx1, hx2⟩
    have sD : Same H H4 := sC.trans s4
    have lx2 : xs.length ≤ 64 := by
      rw [lx]
      exact Nat.mul_le_mul (show T.length + 1 ≤ 8 by omega) (show T.length + 1 ≤ 8 by omega)
    -- turned
    refine ⟨_, rfl, a, ns, 60, rfl, sD.seq hS, hl, by decide, fun H5 nb s5 c1 c2 => ⟨_, rfl, nb, pr, xs, rfl, SqL.of (s5 _ _ hpr), c1, by omega, fun v hv => ?_, fun H6 pt ys s6 hpt perm => ?_⟩⟩
    · obtain ⟨p, q', _, _, b, rfl, hb⟩ := hx1 v hv
      exact ⟨b, _, _, rfl, s5 _ _ hb⟩
    have s46 : Same H4 H6 := s5.trans s6
    have sE : Same H H6 := sD.trans s46
    have s36 : Same H3 H6 := s4.trans s46
    have ly : ys.length = xs.length := perm.length_eq
    have hy1 : ∀ v ∈ ys, ∃ i j, i < T.length + 1 ∧ j < T.length + 1 ∧ PairOf H6 v i j := fun v hv => by
      obtain ⟨p, q', h1, h2, h3⟩ := hx1 v (perm.subset hv)
      exact ⟨p, q', h1, h2, h3.same s46⟩
    have hy2 : ∀ i j, i < T.length + 1 → j < T.length + 1 → ∃ v ∈ ys, PairOf H6 v i j := fun i j hi hj => by
      obtain ⟨v, hv, h3⟩ := hx2 i j hi hj
      exact ⟨v, perm.symm.subset hv, h3.same s46⟩
    -- two kept webs
    refine ⟨_, rfl, _, rfl, _, rfl, _, rfl, a, nm, tb, pt, ns, z0, zm, T, f, ys, rfl, sE.seq hS, hl, Same.sqT s36 hnm3, ndz, by omega, Same.tab s36 Tb3, hf, hpt, by omega, hy1, hy2, fun H7 pk x1 n1 r1 x2 n2 r2 as1 as2 npk hpk tw => ?_⟩
    refine ⟨pk, _, rfl, SqT.of hpk, rfl, _, _, rfl, _, _, rfl, rfl, ?_⟩
    have hS6 := sE.seq hS
    have hnm6 := Same.sqT s36 hnm3
    have Tb6 := Same.tab s36 Tb3
    have okL : ∀ z ∈ z0 :: T, PyData.strOk z = true := fun z hz => okz z (by
      rcases List.mem_cons.mp hz with e | e
      · rw [e]; exact List.mem_cons_self
      · exact List.mem_cons_of_mem _ (List.mem_append_left _ e))
    clear hnm3 Tb3 sC s4 s5 s6 s46 sD s36 hx1 hx2 hpr
    -- walk
    refine ⟨_, rfl, a, ns, 61, rfl, tw.same.seq hS6, hl, by decide, fun H8 w1 s8 _ _ => ⟨_, _, rfl, rfl, (by show (0 : Int) < 6; decide), ?_⟩⟩
    have tw1 := tw.carry s8
    obtain ⟨wk, ewk, hwk⟩ : ∃ wk : Nat, w1 % 6 = ((wk : Nat) : Int) ∧ wk ≤ 40 := by
      have h1 := Int.emod_nonneg w1 (show (6 : Int) ≠ 0 by decide)
      have h2 := Int.emod_lt_of_pos w1 (show (0 : Int) < 6 by decide)
      exact ⟨(w1 % 6).toNat, by omega, by omega⟩
    show gName 9 (V.int (w1 % 6)) _ _ _
    rw [ewk]
    refine ⟨fun σ H' => ∃ wk : Nat, wk ≤ 40 ∧ σ = [some (.ref a), some (.int ((T.length + 1 : Nat) : Int)), some (.ref tb), some (.ref nm), some (.ref pt), v5, none, some (.ref x1), some (.ref x2), some (.int ((wk : Nat) : Int)), none, none, none] ∧
      Two C H6 H' x1 n1 r1 as1 (z0 :: T) (T.length + 1) f x2 n2 r2 as2 (z0 :: T) (T.length + 1) f, ?_, ?_⟩
    · refine ⟨_, rfl, a, ns, 61, rfl, tw1.same.seq hS6, hl, by decide, fun H9 w2 s9 _ _ => ⟨_, _, rfl, rfl, ⟨by decide, by decide⟩, _, _, rfl, rfl, (by show (0 : Int) < 8; decide), rfl, _, rfl, ?_⟩⟩
      have tw2 := tw1.carry s9
      refine ite2 (fun _ => ?_) (fun _ => ⟨wk, hwk, rfl, tw2⟩)
      refine ⟨_, rfl, a, ns, 63, rfl, tw2.same.seq hS6, hl, by decide, fun H10 w3 s10 _ _ => ⟨_, _, rfl, rfl, (by show (0 : Int) < 41; decide), ?_⟩⟩
      have h1 := Int.emod_nonneg w3 (show (41 : Int) ≠ 0 by decide)
      have h2 := Int.emod_lt_of_pos w3 (show (0 : Int) < 41 by decide)
      have e3 : w3 % 41 = (((w3 % 41).toNat : Nat) : Int) := (Int.toNat_of_nonneg h1).symm
      refine ⟨(w3 % 41).toNat, by omega, ?_, tw2.carry s10⟩
      rw [← e3]; rfl
    clear tw tw1 hwk ewk wk
    rintro σ H9 ⟨wk, hwk, rfl, tw⟩
    -- way
    refine ⟨_, rfl, a, ns, 64, rfl, tw.same.seq hS6, hl, by decide, fun H10 way s10 _ _ => ?_⟩
    have tw1 := tw.carry s10
    clear tw
    have eC : cutV ((z0 :: (T ++ [zm])).map V.str) none (some ((T.length + 1 : Nat) : Int)) = (z0 :: T).map V.str := cut_head (L := z0 :: T) rfl
    have nW : ¬ (HT.sIx ((z0 :: (T ++ [zm])).map V.str).length 0 none = 0 ∧ HT.sIx ((z0 :: (T ++ [zm])).map V.str).length ((z0 :: (T ++ [zm])).map V.str).length (some ((T.length + 1 : Nat) : Int)) = ((z0 :: (T ++ [zm])).map V.str).length) := by
      rw [HT.sIx_nat]
      simp
    have lL : (z0 :: T).length = T.length + 1 := rfl
    -- web
    refine ⟨_, rfl, _, rfl, _, rfl, nm, _, rfl, Same.sqT tw1.same hnm6, nW, fun tl ntl => ?_⟩
    rw [eC]
    refine ⟨_, rfl, (by show 2 ≤ sizeLine; decide), fun wb nwb => ?_⟩
    have sF : Same H10 (upd H10 tl (.tup ((z0 :: T).map V.str))) := Same.new ntl
    have sG : Same (upd H10 tl (.tup ((z0 :: T).map V.str))) (upd (upd H10 tl (.tup ((z0 :: T).map V.str))) wb (.tup [.ref tl, .ref tb])) := Same.new nwb
    have tw2 := (tw1.carry sF).carry sG
    have Wb := web_mk (K := K) (L := z0 :: T) upd_same (SqT.of (sG _ _ upd_same)) (Same.tab tw2.same Tb6) lL
    generalize (upd (upd H10 tl (.tup ((z0 :: T).map V.str))) wb (.tup [.ref tl, .ref tb])) = H11 at tw2 Wb ⊢
    clear sF sG tw1 nwb ntl
    have sm := hf.small (T.length + 1)
    -- the first looks
    refine ⟨_, rfl, _, rfl, _, rfl, _, rfl, x1, n1, r1, as1, _, _, f, wb, wk, way, rfl, tw2.k1, Wb, by omega, by omega, sm, okL, fun H12 s12 => ⟨_, rfl, iteF ?_⟩⟩
    have tw3 := tw2.carry s12
    refine ⟨_, rfl, _, rfl, _, rfl, _, rfl, _, _, rfl, rfl, ⟨by decide, by decide⟩, x2, n2, r2, as2, _, _, f, wb, wk, _, rfl, tw3.k2, Same.web s12 Wb, by omega, by omega, sm, okL, fun H13 s13 => ⟨_, rfl, iteF ?_⟩⟩
    have tw4 := tw3.carry s13
    clear tw2 tw3 Wb s12 s13
    -- one, other
    have hlen0 : 0 < ys.length := by rw [ly, lx]; exact Nat.mul_pos (Nat.succ_pos _) (Nat.succ_pos _)
    have ey : ys[0]? = some ys[0] := List.getElem?_eq_getElem hlen0
    obtain ⟨p, q', hp, hq', b, eb, hb⟩ := hy1 ys[0] (List.getElem_mem hlen0)
    rw [eb] at ey
    refine ⟨_, rfl, pt, _, 0, _, rfl, rfl, SqL.of (tw4.same _ _ hpt), ey, b, _, rfl, SqT.of (tw4.same _ _ hb), rfl, _, _, rfl, _, _, rfl, rfl, ?_⟩
    -- weighed
    obtain ⟨ta, t1, t2, t3⟩ := Tb6.ex
    have et : ta[p]? = some (ta[p]'(by rw [t2]; exact hp)) := List.getElem?_eq_getElem _
    obtain ⟨j, v, ej, ev, hv1, hv2⟩ := two_at (decide (0 < f p q'))
    refine ⟨_, rfl, _, rfl, _, rfl, _, rfl, (by show 2 ≤ sizeLine; decide), fun ls nls => ?_⟩
    have sH : Same H13 (upd H13 ls (.lst [.int 5, .int (-7)])) := Same.new nls
    have tw5 := tw4.carry sH
    refine ⟨_, rfl, _, rfl, tb, _, p, _, rfl, rfl, Same.sqT tw5.same t1, ref_to et, _, rfl, _, _, q', _, rfl, rfl, Same.sqT tw5.same (t3 p _ et), rowV_at hq', _, _, rfl, rfl, .inr ⟨_, rfl, ls, _, j, _, rfl, congrArg V.int ej, SqL.of upd_same, ev,
      tb, T.length + 1, f, p, q', v, rfl, Same.tab tw5.same Tb6, by omega, hp, hq', fun H14 tb2 s14 Tb2 => ?_⟩⟩
    have tw6 := tw5.carry s14
    clear tw4 tw5 sH
    have hf2 : Sym (tieG p q' v f) := hf.tie hv1 hv2
    have sm2 := hf2.small (T.length + 1)
    -- the second web
    refine ⟨_, rfl, _, rfl, _, rfl, nm, _, rfl, Same.sqT tw6.same hnm6, nW, fun tl2 ntl2 => ?_⟩
    rw [eC]
    refine ⟨_, rfl, (by show 2 ≤ sizeLine; decide), fun wb2 nwb2 => ?_⟩
    have sF : Same H14 (upd H14 tl2 (.tup ((z0 :: T).map V.str))) := Same.new ntl2
    have sG : Same (upd H14 tl2 (.tup ((z0 :: T).map V.str))) (upd (upd H14 tl2 (.tup ((z0 :: T).map V.str))) wb2 (.tup [.ref tl2, .ref tb2])) := Same.new nwb2
    have tw7 := (tw6.carry sF).carry sG
    have Tb7 := Same.tab sG (Same.tab sF Tb2)
    have Wb2 := web_mk (K := K) (L := z0 :: T) upd_same (SqT.of (sG _ _ upd_same)) Tb7 lL
    generalize (upd (upd H14 tl2 (.tup ((z0 :: T).map V.str))) wb2 (.tup [.ref tl2, .ref tb2])) = H15 at tw7 Tb7 Wb2 ⊢
    clear sF sG tw6 nwb2 ntl2 Tb2 s14
    -- the ties
    have hp1 : p < (z0 :: T).length := hp
    have hq1 : q' < (z0 :: T).length := hq'
    have ep : (z0 :: T)[p]? = some (z0 :: T)[p] := List.getElem?_eq_getElem hp1
    have eq : (z0 :: T)[q']? = some (z0 :: T)[q'] := List.getElem?_eq_getElem hq1
    have fp : ((z0 :: (T ++ [zm])).map V.str)[p]? = some (.str (z0 :: T)[p]) := str_to (by rw [names_at hp]; exact ep)
    have fq : ((z0 :: (T ++ [zm])).map V.str)[q']? = some (.str (z0 :: T)[q']) := str_to (by rw [names_at hq']; exact eq)
    have hnm7 := Same.sqT tw7.same hnm6
    obtain ⟨ua, u1, u2, u3⟩ := Tb7.ex
    have eu : ua[p]? = some (ua[p]'(by rw [u2]; exact hp)) := List.getElem?_eq_getElem _
    obtain ⟨dx, hx⟩ := tw7.k1.ins
    refine ⟨_, rfl, x1, dx, _, rfl, hx, flds_no n1 r1 (by decide +kernel) (by decide +kernel), _, rfl, _, rfl, nm, _, p, _, rfl, rfl, hnm7, fp, _, rfl, _, rfl, nm, _, q', _, rfl, rfl, hnm7, fq,
      _, rfl, _, rfl, tb2, _, p, _, rfl, rfl, u1, ref_to eu, _, rfl, _, _, q', _, rfl, rfl, u3 p _ eu, rowV_at hq', x1, n1, r1, as1, _, _, f, _, _, p, q', _, rfl, tw7.k1, ep, eq, fun H16 o k => ?_⟩
    rw [tieG_at] at k
    have tw8 := tw7.op1 o k fun c hc => .inl hc
    have hnm8 := tw7.k1.sqT o hnm7
    have Tb8 := tw7.k1.tabT o Tb7
    have Wb8 : WebAt K H16 wb2 (z0 :: T) (T.length + 1) (tieG p q' v f) := by
      obtain ⟨g1, g2, w1, w2, w3⟩ := Wb2.ex
      exact ⟨⟨g1, g2, tw7.k1.sqT o w1, tw7.k1.sqT o w2, tw7.k1.tabT o w3⟩, lL⟩
    obtain ⟨va, v1, v2, v3⟩ := Tb8.ex
    have ev' : va[p]? = some (va[p]'(by rw [v2]; exact hp)) := List.getElem?_eq_getElem _
    obtain ⟨dx2, hx2⟩ := tw8.k2.ins
    refine ⟨_, rfl, x2, dx2, _, rfl, hx2, flds_no n2 r2 (by decide +kernel) (by decide +kernel), _, rfl, _, rfl, nm, _, q', _, rfl, rfl, hnm8, fq, _, rfl, _, rfl, nm, _, p, _, rfl, rfl, hnm8, fp,
      _, rfl, _, rfl, tb2, _, p, _, rfl, rfl, v1, ref_to ev', _, rfl, _, _, q', _, rfl, rfl, v3 p _ ev', rowV_at hq', x2, n2, r2, as2, _, _, f, _, _, q', p, _, rfl, tw8.k2, eq, ep, fun H17 o2 k2 => ?_⟩
    rw [tieG_at, tieG_turn q' p] at k2
    have tw9 := tw8.op2 o2 k2 fun c hc => .inl hc
    have hnm9 := tw8.k2.sqT o2 hnm8
    have Tb9 := tw8.k2.tabT o2 Tb8
    have Wb9 : WebAt K H17 wb2 (z0 :: T) (T.length + 1) (tieG p q' v f) := by
      obtain ⟨g1, g2, w1, w2, w3⟩ := Wb8.ex
      exact ⟨⟨g1, g2, tw8.k2.sqT o2 w1, tw8.k2.sqT o2 w2, tw8.k2.tabT o2 w3⟩, lL⟩
    clear tw7 tw8 hnm7 hnm8 Tb7 Tb8 Wb2 Wb8 k k2 o o2 hx hx2 u1 u2 u3 v1 v2 v3 eu ev'
    generalize tieG p q' v f = f2 at tw9 Tb9 Wb9 hf2 sm2
    -- the second looks
    refine ⟨_, rfl, _, rfl, _, rfl, _, rfl, _, _, rfl, rfl, ⟨by decide, by decide⟩, x1, n1, r1, as1, _, _, f2, wb2, wk, _, rfl, tw9.k1, Wb9, by omega, by omega, sm2, okL, fun H18 s18 => ⟨_, rfl, iteF ?_⟩⟩
    have tw10 := tw9.carry s18
    refine ⟨_, rfl, _, rfl, _, rfl, _, rfl, _, _, rfl, rfl, ⟨by decide, by decide⟩, x2, n2, r2, as2, _, _, f2, wb2, wk, _, rfl, tw10.k2, Same.web s18 Wb9, by omega, by omega, sm2, okL, fun H19 s19 => ⟨_, rfl, iteF ?_⟩⟩
    have tw11 := tw10.carry s19
    -- at
    refine ⟨_, rfl, a, ns, 62, rfl, tw11.same.seq hS6, hl, by decide, fun H20 m7 s20 _ _ => ⟨_, rfl, _, _, rfl, rfl, (by show (0 : Int) < ((T.length + 1 : Nat) : Int); omega), ?_⟩⟩
    have tw12 := tw11.carry s20
    have s1720 : Same H17 H20 := (s18.trans s19).trans s20
    have Wb12 := Same.web s1720 Wb9
    obtain ⟨pa, epa, hpa⟩ : ∃ pa : Nat, m7 % ((T.length + 1 : Nat) : Int) = ((pa : Nat) : Int) ∧ pa < T.length + 1 := by
      have h1 := Int.emod_nonneg m7 (show ((T.length + 1 : Nat) : Int) ≠ 0 by omega)
      have h2 := Int.emod_lt_of_pos m7 (show (0 : Int) < ((T.length + 1 : Nat) : Int) by omega)
      exact ⟨(m7 % ((T.length + 1 : Nat) : Int)).toNat, by omega, by omega⟩
    show gName 12 (V.int (m7 % ((T.length + 1 : Nat) : Int))) _ _ _
    rw [epa]
    refine ⟨_, rfl, _, _, rfl, rfl, _, rfl, ?_⟩
    refine ite2 (fun hgt => ?_) (fun _ => iteF ?_)
    · have hk1 : 1 ≤ T.length := by have := of_decide_eq_true hgt; omega
      refine ⟨_, rfl, _, rfl, _, rfl, _, rfl, _, rfl, _, rfl, _, _, rfl, rfl, ⟨by decide, by decide⟩, x1, n1, r1, nm, tb2, as1, z0 :: T, zm, T.length, pa, wk, _, f2, rfl, tw12.k1, Same.sqT s1720 hnm9, Same.tab s1720 Tb9, hf2, hk1, by omega, hpa, by omega, okL, fun H21 o => ⟨_, rfl, iteF ?_⟩⟩
      have k21 := tw12.k2.off o fun b hb z => tw12.ap b (List.mem_cons_of_mem _ z) hb
      have Wb21 : WebAt K H21 wb2 (z0 :: T) (T.length + 1) f2 := by
        obtain ⟨g1, g2, w1, w2, w3⟩ := Wb12.ex
        exact ⟨⟨g1, g2, tw12.k1.sqT o w1, tw12.k1.sqT o w2, tw12.k1.tabT o w3⟩, lL⟩
      exact ⟨_, rfl, _, rfl, _, rfl, x2, n2, r2, as2, _, _, f2, wb2, wk, 2, rfl, k21, Wb21, by omega, by omega, sm2, okL, fun H22 _ => hq H22⟩
    · exact ⟨_, rfl, _, rfl, _, rfl, x2, n2, r2, as2, _, _, f2, wb2, wk, 2, rfl, tw12.k2, Wb12, by omega, by omega, sm2, okL, fun H22 _ => hq H22⟩
end
end My

/-! ### what the top has left, and the end -/
namespace My
open PySem L2
theorem all_mk {l : PySem.W.OpenLaw} {w : World} {K : PySem.W.Frag} {h : Heap} {mg : Str → Option Value} {fa : Addr} (X : K.In h) (G : h.Ns mainGlobals mg) (hfa : mg "law" = some (.ref fa))
    {C : Addr} (aC : PySem.W.nsIn K mainGlobals "KeptWeb" = some (some (.ref C)))
    {fD0 : Addr} {odD0 anD0 : Option Addr} {slD0 : Array (Option Value)} {ocD0 kVD0 dcD0 pmD0 cdD0 ctD0 : Value}
    (aD0 : PySem.W.nsIn K mainGlobals "columns_in" = some (some (.ref fD0)))
    (lD0 : K.lookup fD0 = some ⟨ocD0, odD0, .func (PySem.W.fnOf "columns_in" "columns_in" (defArgs sCols) (defBody sCols) (defScope sCols) .none kVD0 dcD0 pmD0 anD0 cdD0 ctD0), slD0⟩)
    (cD0 : PySem.W.codeIn K cdD0 "columns_in" = true) (kD0 : PySem.W.keepIn K (.ref fD0) = true)
    {fD1 : Addr} {odD1 anD1 : Option Addr} {slD1 : Array (Option Value)} {ocD1 kVD1 dcD1 pmD1 cdD1 ctD1 : Value}
    (aD1 : PySem.W.nsIn K mainGlobals "rows_times" = some (some (.ref fD1)))
    (lD1 : K.lookup fD1 = some ⟨ocD1, odD1, .func (PySem.W.fnOf "rows_times" "rows_times" (defArgs sMul) (defBody sMul) (defScope sMul) .none kVD1 dcD1 pmD1 anD1 cdD1 ctD1), slD1⟩)
    (cD1 : PySem.W.codeIn K cdD1 "rows_times" = true) (kD1 : PySem.W.keepIn K (.ref fD1) = true)
    {fD2 : Addr} {odD2 anD2 : Option Addr} {slD2 : Array (Option Value)} {ocD2 kVD2 dcD2 pmD2 cdD2 ctD2 : Value}
    (aD2 : PySem.W.nsIn K mainGlobals "corner_sum" = some (some (.ref fD2)))
    (lD2 : K.lookup fD2 = some ⟨ocD2, odD2, .func (PySem.W.fnOf "corner_sum" "corner_sum" (defArgs sCor) (defBody sCor) (defScope sCor) .none kVD2 dcD2 pmD2 anD2 cdD2 ctD2), slD2⟩)
    (cD2 : PySem.W.codeIn K cdD2 "corner_sum" = true) (kD2 : PySem.W.keepIn K (.ref fD2) = true)
    {fD3 : Addr} {odD3 anD3 : Option Addr} {slD3 : Array (Option Value)} {ocD3 kVD3 dcD3 pmD3 cdD3 ctD3 : Value}
    (aD3 : PySem.W.nsIn K mainGlobals "whole_poly" = some (some (.ref fD3)))
    (lD3 : K.lookup fD3 = some ⟨ocD3, odD3, .func (PySem.W.fnOf "whole_poly" "whole_poly" (defArgs sWhole) (defBody sWhole) (defScope sWhole) .none kVD3 dcD3 pmD3 anD3 cdD3 ctD3), slD3⟩)
    (cD3 : PySem.W.codeIn K cdD3 "whole_poly" = true) (kD3 : PySem.W.keepIn K (.ref fD3) = true)
    {fD4 : Addr} {odD4 anD4 : Option Addr} {slD4 : Array (Option Value)} {ocD4 kVD4 dcD4 pmD4 cdD4 ctD4 : Value}
    (aD4 : PySem.W.nsIn K mainGlobals "poly_of" = some (some (.ref fD4)))
    (lD4 : K.lookup fD4 = some ⟨ocD4, odD4, .func (PySem.W.fnOf "poly_of" "poly_of" (defArgs sPoly) (defBody sPoly) (defScope sPoly) .none kVD4 dcD4 pmD4 anD4 cdD4 ctD4), slD4⟩)
    (cD4 : PySem.W.codeIn K cdD4 "poly_of" = true) (kD4 : PySem.W.keepIn K (.ref fD4) = true)
    {fD5 : Addr} {odD5 anD5 : Option Addr} {slD5 : Array (Option Value)} {ocD5 kVD5 dcD5 pmD5 cdD5 ctD5 : Value}
    (aD5 : PySem.W.nsIn K mainGlobals "walks_of" = some (some (.ref fD5)))
    (lD5 : K.lookup fD5 = some ⟨ocD5, odD5, .func (PySem.W.fnOf "walks_of" "walks_of" (defArgs sWalks) (defBody sWalks) (defScope sWalks) .none kVD5 dcD5 pmD5 anD5 cdD5 ctD5), slD5⟩)
    (cD5 : PySem.W.codeIn K cdD5 "walks_of" = true) (kD5 : PySem.W.keepIn K (.ref fD5) = true)
    {fD6 : Addr} {odD6 anD6 : Option Addr} {slD6 : Array (Option Value)} {ocD6 kVD6 dcD6 pmD6 cdD6 ctD6 : Value}
    (aD6 : PySem.W.nsIn K mainGlobals "closed_walks" = some (some (.ref fD6)))
    (lD6 : K.lookup fD6 = some ⟨ocD6, odD6, .func (PySem.W.fnOf "closed_walks" "closed_walks" (defArgs sClosed) (defBody sClosed) (defScope sClosed) .none kVD6 dcD6 pmD6 anD6 cdD6 ctD6), slD6⟩)
    (cD6 : PySem.W.codeIn K cdD6 "closed_walks" = true) (kD6 : PySem.W.keepIn K (.ref fD6) = true)
    {fD7 : Addr} {odD7 anD7 : Option Addr} {slD7 : Array (Option Value)} {ocD7 kVD7 dcD7 pmD7 cdD7 ctD7 : Value}
    (aD7 : PySem.W.nsIn K mainGlobals "_law_number" = some (some (.ref fD7)))
    (lD7 : K.lookup fD7 = some ⟨ocD7, odD7, .func (PySem.W.fnOf "_law_number" "_law_number" (defArgs sNum) (defBody sNum) (defScope sNum) .none kVD7 dcD7 pmD7 anD7 cdD7 ctD7), slD7⟩)
    (cD7 : PySem.W.codeIn K cdD7 "_law_number" = true) (kD7 : PySem.W.keepIn K (.ref fD7) = true)
    {fD8 : Addr} {odD8 anD8 : Option Addr} {slD8 : Array (Option Value)} {ocD8 kVD8 dcD8 pmD8 cdD8 ctD8 : Value}
    (aD8 : PySem.W.nsIn K mainGlobals "_law_names" = some (some (.ref fD8)))
    (lD8 : K.lookup fD8 = some ⟨ocD8, odD8, .func (PySem.W.fnOf "_law_names" "_law_names" (defArgs sNames) (defBody sNames) (defScope sNames) .none kVD8 dcD8 pmD8 anD8 cdD8 ctD8), slD8⟩)
    (cD8 : PySem.W.codeIn K cdD8 "_law_names" = true) (kD8 : PySem.W.keepIn K (.ref fD8) = true)
    {fD9 : Addr} {odD9 anD9 : Option Addr} {slD9 : Array (Option Value)} {ocD9 kVD9 dcD9 pmD9 cdD9 ctD9 : Value}
    (aD9 : PySem.W.nsIn K mainGlobals "_law_table" = some (some (.ref fD9)))
    (lD9 : K.lookup fD9 = some ⟨ocD9, odD9, .func (PySem.W.fnOf "_law_table" "_law_table" (defArgs sTable) (defBody sTable) (defScope sTable) .none kVD9 dcD9 pmD9 anD9 cdD9 ctD9), slD9⟩)
    (cD9 : PySem.W.codeIn K cdD9 "_law_table" = true) (kD9 : PySem.W.keepIn K (.ref fD9) = true)
    {fD10 : Addr} {odD10 anD10 : Option Addr} {slD10 : Array (Option Value)} {ocD10 kVD10 dcD10 pmD10 cdD10 ctD10 : Value}
    (aD10 : PySem.W.nsIn K mainGlobals "_law_turned" = some (some (.ref fD10)))
    (lD10 : K.lookup fD10 = some ⟨ocD10, odD10, .func (PySem.W.fnOf "_law_turned" "_law_turned" (defArgs sTurned) (defBody sTurned) (defScope sTurned) .none kVD10 dcD10 pmD10 anD10 cdD10 ctD10), slD10⟩)
    (cD10 : PySem.W.codeIn K cdD10 "_law_turned" = true) (kD10 : PySem.W.keepIn K (.ref fD10) = true)
    {fD11 : Addr} {odD11 anD11 : Option Addr} {slD11 : Array (Option Value)} {ocD11 kVD11 dcD11 pmD11 cdD11 ctD11 : Value}
    (aD11 : PySem.W.nsIn K mainGlobals "_law_weighed" = some (some (.ref fD11)))
    (lD11 : K.lookup fD11 = some ⟨ocD11, odD11, .func (PySem.W.fnOf "_law_weighed" "_law_weighed" (defArgs sWeigh) (defBody sWeigh) (defScope sWeigh) .none kVD11 dcD11 pmD11 anD11 cdD11 ctD11), slD11⟩)
    (cD11 : PySem.W.codeIn K cdD11 "_law_weighed" = true) (kD11 : PySem.W.keepIn K (.ref fD11) = true)
    {fI : Addr} {odI anI : Option Addr} {slI : Array (Option Value)} {ocI kVI dcI pmI cdI ctI : Value}
    (aI : PySem.W.findIn K (.ref C) "__init__" = some (some (.ref fI))) (iI : PySem.W.isFn K (.ref fI) = true)
    (lI : K.lookup fI = some ⟨ocI, odI, .func (PySem.W.fnOf "__init__" "KeptWeb.__init__" (defArgs mInit) (defBody mInit) (defScope mInit) .none kVI dcI pmI anI cdI ctI), slI⟩)
    (cI : PySem.W.codeIn K cdI "KeptWeb.__init__" = true) (kI : PySem.W.keepIn K (.ref fI) = true)
    {fM0 : Addr} {odM0 anM0 : Option Addr} {slM0 : Array (Option Value)} {ocM0 kVM0 dcM0 pmM0 cdM0 ctM0 : Value}
    (aM0 : PySem.W.findIn K (.ref C) "need_name" = some (some (.ref fM0))) (iM0 : PySem.W.isFn K (.ref fM0) = true)
    (lM0 : K.lookup fM0 = some ⟨ocM0, odM0, .func (PySem.W.fnOf "need_name" "KeptWeb.need_name" (defArgs mNeed) (defBody mNeed) (defScope mNeed) .none kVM0 dcM0 pmM0 anM0 cdM0 ctM0), slM0⟩)
    (cM0 : PySem.W.codeIn K cdM0 "KeptWeb.need_name" = true) (kM0 : PySem.W.keepIn K (.ref fM0) = true)
    {fM1 : Addr} {odM1 anM1 : Option Addr} {slM1 : Array (Option Value)} {ocM1 kVM1 dcM1 pmM1 cdM1 ctM1 : Value}
    (aM1 : PySem.W.findIn K (.ref C) "tie" = some (some (.ref fM1))) (iM1 : PySem.W.isFn K (.ref fM1) = true)
    (lM1 : K.lookup fM1 = some ⟨ocM1, odM1, .func (PySem.W.fnOf "tie" "KeptWeb.tie" (defArgs mTie) (defBody mTie) (defScope mTie) .none kVM1 dcM1 pmM1 anM1 cdM1 ctM1), slM1⟩)
    (cM1 : PySem.W.codeIn K cdM1 "KeptWeb.tie" = true) (kM1 : PySem.W.keepIn K (.ref fM1) = true)
    {fM2 : Addr} {odM2 anM2 : Option Addr} {slM2 : Array (Option Value)} {ocM2 kVM2 dcM2 pmM2 cdM2 ctM2 : Value}
    (aM2 : PySem.W.findIn K (.ref C) "put_place" = some (some (.ref fM2))) (iM2 : PySem.W.isFn K (.ref fM2) = true)
    (lM2 : K.lookup fM2 = some ⟨ocM2, odM2, .func (PySem.W.fnOf "put_place" "KeptWeb.put_place" (defArgs mPut) (defBody mPut) (defScope mPut) .none kVM2 dcM2 pmM2 anM2 cdM2 ctM2), slM2⟩)
    (cM2 : PySem.W.codeIn K cdM2 "KeptWeb.put_place" = true) (kM2 : PySem.W.keepIn K (.ref fM2) = true)
    {fM3 : Addr} {odM3 anM3 : Option Addr} {slM3 : Array (Option Value)} {ocM3 kVM3 dcM3 pmM3 cdM3 ctM3 : Value}
    (aM3 : PySem.W.findIn K (.ref C) "take_place" = some (some (.ref fM3))) (iM3 : PySem.W.isFn K (.ref fM3) = true)
    (lM3 : K.lookup fM3 = some ⟨ocM3, odM3, .func (PySem.W.fnOf "take_place" "KeptWeb.take_place" (defArgs mTake) (defBody mTake) (defScope mTake) .none kVM3 dcM3 pmM3 anM3 cdM3 ctM3), slM3⟩)
    (cM3 : PySem.W.codeIn K cdM3 "KeptWeb.take_place" = true) (kM3 : PySem.W.keepIn K (.ref fM3) = true)
    {fM4 : Addr} {odM4 anM4 : Option Addr} {slM4 : Array (Option Value)} {ocM4 kVM4 dcM4 pmM4 cdM4 ctM4 : Value}
    (aM4 : PySem.W.findIn K (.ref C) "web" = some (some (.ref fM4))) (iM4 : PySem.W.isFn K (.ref fM4) = true)
    (lM4 : K.lookup fM4 = some ⟨ocM4, odM4, .func (PySem.W.fnOf "web" "KeptWeb.web" (defArgs mWeb) (defBody mWeb) (defScope mWeb) .none kVM4 dcM4 pmM4 anM4 cdM4 ctM4), slM4⟩)
    (cM4 : PySem.W.codeIn K cdM4 "KeptWeb.web" = true) (kM4 : PySem.W.keepIn K (.ref fM4) = true)
    {fM5 : Addr} {odM5 anM5 : Option Addr} {slM5 : Array (Option Value)} {ocM5 kVM5 dcM5 pmM5 cdM5 ctM5 : Value}
    (aM5 : PySem.W.findIn K (.ref C) "poly" = some (some (.ref fM5))) (iM5 : PySem.W.isFn K (.ref fM5) = true)
    (lM5 : K.lookup fM5 = some ⟨ocM5, odM5, .func (PySem.W.fnOf "poly" "KeptWeb.poly" (defArgs mPoly) (defBody mPoly) (defScope mPoly) .none kVM5 dcM5 pmM5 anM5 cdM5 ctM5), slM5⟩)
    (cM5 : PySem.W.codeIn K cdM5 "KeptWeb.poly" = true) (kM5 : PySem.W.keepIn K (.ref fM5) = true)
    {fM6 : Addr} {odM6 anM6 : Option Addr} {slM6 : Array (Option Value)} {ocM6 kVM6 dcM6 pmM6 cdM6 ctM6 : Value}
    (aM6 : PySem.W.findIn K (.ref C) "closed" = some (some (.ref fM6))) (iM6 : PySem.W.isFn K (.ref fM6) = true)
    (lM6 : K.lookup fM6 = some ⟨ocM6, odM6, .func (PySem.W.fnOf "closed" "KeptWeb.closed" (defArgs mClosed) (defBody mClosed) (defScope mClosed) .none kVM6 dcM6 pmM6 anM6 cdM6 ctM6), slM6⟩)
    (cM6 : PySem.W.codeIn K cdM6 "KeptWeb.closed" = true) (kM6 : PySem.W.keepIn K (.ref fM6) = true)
    {fL0 : Addr} {odL0 anL0 : Option Addr} {slL0 : Array (Option Value)} {ocL0 kVL0 dcL0 pmL0 cdL0 ctL0 : Value}
    (aL0 : PySem.W.nsIn K mainGlobals "_law_right" = some (some (.ref fL0)))
    (lL0 : K.lookup fL0 = some ⟨ocL0, odL0, .func (PySem.W.fnOf "_law_right" "_law_right" (defArgs sRight) (defBody sRight) (defScope sRight) .none kVL0 dcL0 pmL0 anL0 cdL0 ctL0), slL0⟩)
    (cL0 : PySem.W.codeIn K cdL0 "_law_right" = true) (kL0 : PySem.W.keepIn K (.ref fL0) = true)
    {fL1 : Addr} {odL1 anL1 : Option Addr} {slL1 : Array (Option Value)} {ocL1 kVL1 dcL1 pmL1 cdL1 ctL1 : Value}
    (aL1 : PySem.W.nsIn K mainGlobals "_law_two_kept" = some (some (.ref fL1)))
    (lL1 : K.lookup fL1 = some ⟨ocL1, odL1, .func (PySem.W.fnOf "_law_two_kept" "_law_two_kept" (defArgs sTwo) (defBody sTwo) (defScope sTwo) .none kVL1 dcL1 pmL1 anL1 cdL1 ctL1), slL1⟩)
    (cL1 : PySem.W.codeIn K cdL1 "_law_two_kept" = true) (kL1 : PySem.W.keepIn K (.ref fL1) = true)
    {fL2 : Addr} {odL2 anL2 : Option Addr} {slL2 : Array (Option Value)} {ocL2 kVL2 dcL2 pmL2 cdL2 ctL2 : Value}
    (aL2 : PySem.W.nsIn K mainGlobals "_law_anew" = some (some (.ref fL2)))
    (lL2 : K.lookup fL2 = some ⟨ocL2, odL2, .func (PySem.W.fnOf "_law_anew" "_law_anew" (defArgs sAnew) (defBody sAnew) (defScope sAnew) .none kVL2 dcL2 pmL2 anL2 cdL2 ctL2), slL2⟩)
    (cL2 : PySem.W.codeIn K cdL2 "_law_anew" = true) (kL2 : PySem.W.keepIn K (.ref fL2) = true)
    {fZ : Addr} {odZ anZ : Option Addr} {slZ : Array (Option Value)} {ocZ kVZ dcZ pmZ cdZ ctZ : Value}
    (aZ : PySem.W.nsIn K mainGlobals "law" = some (some (.ref fZ)))
    (lZ : K.lookup fZ = some ⟨ocZ, odZ, .func (PySem.W.fnOf "law" "law" (defArgs sLaw) (defBody sLaw) (defScope sLaw) .none kVZ dcZ pmZ anZ cdZ ctZ), slZ⟩)
    (cZ : PySem.W.codeIn K cdZ "law" = true) (kZ : PySem.W.keepIn K (.ref fZ) = true)
    (pg : PySem.W.plainGet K C Str.empty = true) (hd : PySem.W.hasDictIn K C = true) (po : PySem.W.plainOver K C = true) (sa : PySem.W.findIn K (.ref C) "__setattr__" = some (some (.builtin "object.__setattr__"))) (mk : PySem.W.makesIn K C = true) (kc : PySem.W.keepIn K (.ref C) = true)
    (nN : PySem.W.findIn K (.ref C) "names" = some none) (nR : PySem.W.findIn K (.ref C) "rows" = some none)
    (z_range : PySem.W.nsIn K mainGlobals "range" = some none) (z_len : PySem.W.nsIn K mainGlobals "len" = some none) (z_sum : PySem.W.nsIn K mainGlobals "sum" = some none) (z_zip : PySem.W.nsIn K mainGlobals "zip" = some none) (z_tuple : PySem.W.nsIn K mainGlobals "tuple" = some none) (z_list : PySem.W.nsIn K mainGlobals "list" = some none) (z_int : PySem.W.nsIn K mainGlobals "int" = some none) (z_max : PySem.W.nsIn K mainGlobals "max" = some none) (z_min : PySem.W.nsIn K mainGlobals "min" = some none) (z_enumerate : PySem.W.nsIn K mainGlobals "enumerate" = some none) :
    ∃ fd : FuncData, (∀ (s : Shared) (v : Value), BindsTo s fd ⟨[v], []⟩ [("script", v)]) ∧ ∀ base : Heap, K.In base → base.Ns mainGlobals mg → FnOk l.prog w K mg base CX0 8 fa fd ["script"] (spLaw K) := by
  have e := hfa.symm.trans (PySem.W.mg_of X G aZ)
  cases e
  have B : Bi mg := ⟨PySem.W.mg_none_of X G z_range, PySem.W.mg_none_of X G z_len, PySem.W.mg_none_of X G z_sum, PySem.W.mg_none_of X G z_zip, PySem.W.mg_none_of X G z_tuple, PySem.W.mg_none_of X G z_list, PySem.W.mg_none_of X G z_int, PySem.W.mg_none_of X G z_max, PySem.W.mg_none_of X G z_min, PySem.W.mg_none_of X G z_enumerate⟩
  have T : Ct K mg C := ⟨⟨pg, hd, po, sa⟩, nN, nR⟩
  have FD0 := fun_mk (st := sCols) lD0 cD0 kD0
  have bD0 := FD0.binds (ps := ["square"]) fun _ _ _ _ _ _ us hl => match us, hl with | [_], _ => rfl
  have FD1 := fun_mk (st := sMul) lD1 cD1 kD1
  have bD1 := FD1.binds (ps := ["one", "other"]) fun _ _ _ _ _ _ us hl => match us, hl with | [_, _], _ => rfl
  have FD2 := fun_mk (st := sCor) lD2 cD2 kD2
  have bD2 := FD2.binds (ps := ["square"]) fun _ _ _ _ _ _ us hl => match us, hl with | [_], _ => rfl
  have FD3 := fun_mk (st := sWhole) lD3 cD3 kD3
  have bD3 := FD3.binds (ps := ["table"]) fun _ _ _ _ _ _ us hl => match us, hl with | [_], _ => rfl
  have FD4 := fun_mk (st := sPoly) lD4 cD4 kD4
  have bD4 := FD4.binds (ps := ["table"]) fun _ _ _ _ _ _ us hl => match us, hl with | [_], _ => rfl
  have FD5 := fun_mk (st := sWalks) lD5 cD5 kD5
  have bD5 := FD5.binds (ps := ["web", "many"]) fun _ _ _ _ _ _ us hl => match us, hl with | [_, _], _ => rfl
  have FD6 := fun_mk (st := sClosed) lD6 cD6 kD6
  have bD6 := FD6.binds (ps := ["web", "many"]) fun _ _ _ _ _ _ us hl => match us, hl with | [_, _], _ => rfl
  have FD7 := fun_mk (st := sNum) lD7 cD7 kD7
  have bD7 := FD7.binds (ps := ["script", "k"]) fun _ _ _ _ _ _ us hl => match us, hl with | [_, _], _ => rfl
  have FD8 := fun_mk (st := sNames) lD8 cD8 kD8
  have bD8 := FD8.binds (ps := ["script", "start", "many"]) fun _ _ _ _ _ _ us hl => match us, hl with | [_, _, _], _ => rfl
  have FD9 := fun_mk (st := sTable) lD9 cD9 kD9
  have bD9 := FD9.binds (ps := ["script", "start", "many", "kinds", "own"]) fun _ _ _ _ _ _ us hl => match us, hl with | [_, _, _, _, _], _ => rfl
  have FD10 := fun_mk (st := sTurned) lD10 cD10 kD10
  have bD10 := FD10.binds (ps := ["number", "things"]) fun _ _ _ _ _ _ us hl => match us, hl with | [_, _], _ => rfl
  have FD11 := fun_mk (st := sWeigh) lD11 cD11 kD11
  have bD11 := FD11.binds (ps := ["table", "one", "other", "weight"]) fun _ _ _ _ _ _ us hl => match us, hl with | [_, _, _, _], _ => rfl
  have FI := fun_mk (st := mInit) lI cI kI
  have bI := FI.binds (ps := ["self", "name"]) fun _ _ _ _ _ _ us hl => match us, hl with | [_, _], _ => rfl
  have FM0 := fun_mk (st := mNeed) lM0 cM0 kM0
  have bM0 := FM0.binds (ps := ["self", "name"]) fun _ _ _ _ _ _ us hl => match us, hl with | [_, _], _ => rfl
  have FM1 := fun_mk (st := mTie) lM1 cM1 kM1
  have bM1 := FM1.binds (ps := ["self", "one", "other", "weight"]) fun _ _ _ _ _ _ us hl => match us, hl with | [_, _, _, _], _ => rfl
  have FM2 := fun_mk (st := mPut) lM2 cM2 kM2
  have bM2 := FM2.binds (ps := ["self", "name"]) fun _ _ _ _ _ _ us hl => match us, hl with | [_, _], _ => rfl
  have FM3 := fun_mk (st := mTake) lM3 cM3 kM3
  have bM3 := FM3.binds (ps := ["self", "name"]) fun _ _ _ _ _ _ us hl => match us, hl with | [_, _], _ => rfl
  have FM4 := fun_mk (st := mWeb) lM4 cM4 kM4
  have bM4 := FM4.binds (ps := ["self"]) fun _ _ _ _ _ _ us hl => match us, hl with | [_], _ => rfl
  have FM5 := fun_mk (st := mPoly) lM5 cM5 kM5
  have bM5 := FM5.binds (ps := ["self"]) fun _ _ _ _ _ _ us hl => match us, hl with | [_], _ => rfl
  have FM6 := fun_mk (st := mClosed) lM6 cM6 kM6
  have bM6 := FM6.binds (ps := ["self", "many"]) fun _ _ _ _ _ _ us hl => match us, hl with | [_, _], _ => rfl
  have FL0 := fun_mk (st := sRight) lL0 cL0 kL0
  have bL0 := FL0.binds (ps := ["kept", "web", "many", "way"]) fun _ _ _ _ _ _ us hl => match us, hl with | [_, _, _, _], _ => rfl
  have FL1 := fun_mk (st := sTwo) lL1 cL1 kL1
  have bL1 := FL1.binds (ps := ["script", "names", "table", "pairs"]) fun _ _ _ _ _ _ us hl => match us, hl with | [_, _, _, _], _ => rfl
  have FL2 := fun_mk (st := sAnew) lL2 cL2 kL2
  have bL2 := FL2.binds (ps := ["kept", "names", "table", "at", "walk", "way"]) fun _ _ _ _ _ _ us hl => match us, hl with | [_, _, _, _, _, _], _ => rfl
  have FZ := fun_mk (st := sLaw) lZ cZ kZ
  refine ⟨PySem.W.fnOf "law" "law" (defArgs sLaw) (defBody sLaw) (defScope sLaw) .none kVZ dcZ pmZ anZ cdZ ctZ, fun s v => .of_eq rfl, fun base _ _ => ?_⟩
  have D0 : Def l.prog w K mg base "columns_in" 1 ["square"] (spCols K) := ⟨fD0, _, PySem.W.mg_of X G aD0, kD0, bD0, ok_cols FD0 B⟩
  have D1 : Def l.prog w K mg base "rows_times" 2 ["one", "other"] (spMul K) := ⟨fD1, _, PySem.W.mg_of X G aD1, kD1, bD1, ok_mul FD1 B D0⟩
  have D2 : Def l.prog w K mg base "corner_sum" 1 ["square"] (spCor K) := ⟨fD2, _, PySem.W.mg_of X G aD2, kD2, bD2, ok_cor FD2 B⟩
  have D3 : Def l.prog w K mg base "whole_poly" 3 ["table"] (spWhole K) := ⟨fD3, _, PySem.W.mg_of X G aD3, kD3, bD3, ok_whole FD3 B D1 D2⟩
  have D4 : Def l.prog w K mg base "poly_of" 4 ["table"] (spPoly K) := ⟨fD4, _, PySem.W.mg_of X G aD4, kD4, bD4, ok_poly FD4 B D3⟩
  have D5 : Def l.prog w K mg base "walks_of" 3 ["web", "many"] (spWalks K) := ⟨fD5, _, PySem.W.mg_of X G aD5, kD5, bD5, ok_walks FD5 B D1⟩
  have D6 : Def l.prog w K mg base "closed_walks" 4 ["web", "many"] (spClosed K) := ⟨fD6, _, PySem.W.mg_of X G aD6, kD6, bD6, ok_closed FD6 D5 D2⟩
  have D7 : Def l.prog w K mg base "_law_number" 1 ["script", "k"] (spNum K) := ⟨fD7, _, PySem.W.mg_of X G aD7, kD7, bD7, ok_num FD7 B⟩
  have D8 : Def l.prog w K mg base "_law_names" 2 ["script", "start", "many"] (spNames K) := ⟨fD8, _, PySem.W.mg_of X G aD8, kD8, bD8, ok_names FD8 B D7⟩
  have D9 : Def l.prog w K mg base "_law_table" 2 ["script", "start", "many", "kinds", "own"] (spTable K) := ⟨fD9, _, PySem.W.mg_of X G aD9, kD9, bD9, ok_table FD9 B D7⟩
  have D10 : Def l.prog w K mg base "_law_turned" 1 ["number", "things"] (spTurned K) := ⟨fD10, _, PySem.W.mg_of X G aD10, kD10, bD10, ok_turned FD10 B⟩
  have D11 : Def l.prog w K mg base "_law_weighed" 1 ["table", "one", "other", "weight"] (spWeigh K) := ⟨fD11, _, PySem.W.mg_of X G aD11, kD11, bD11, ok_weigh FD11 B⟩
  have CD : Cdef l.prog w K mg base C := ⟨fI, _, ⟨mk, aI, iI, kc⟩, PySem.W.mg_of X G aC, bI, ok_init FI T⟩
  have M0 : Mdef l.prog w K mg base C "need_name" 1 ["self", "name"] (spNeed C) := ⟨fM0, _, ⟨aM0, iM0, kM0⟩, bM0, ok_need FM0 T⟩
  have M1 : Mdef l.prog w K mg base C "tie" 2 ["self", "one", "other", "weight"] (spTie C) := ⟨fM1, _, ⟨aM1, iM1, kM1⟩, bM1, ok_tie FM1 T M0⟩
  have M2 : Mdef l.prog w K mg base C "put_place" 1 ["self", "name"] (spPut C) := ⟨fM2, _, ⟨aM2, iM2, kM2⟩, bM2, ok_put FM2 T B⟩
  have M3 : Mdef l.prog w K mg base C "take_place" 2 ["self", "name"] (spTake C) := ⟨fM3, _, ⟨aM3, iM3, kM3⟩, bM3, ok_take FM3 T B M0⟩
  have M4 : Mdef l.prog w K mg base C "web" 1 ["self"] (spWeb K C) := ⟨fM4, _, ⟨aM4, iM4, kM4⟩, bM4, ok_web FM4 T B⟩
  have M5 : Mdef l.prog w K mg base C "poly" 5 ["self"] (spMPoly K C) := ⟨fM5, _, ⟨aM5, iM5, kM5⟩, bM5, ok_mpoly FM5 T D4⟩
  have M6 : Mdef l.prog w K mg base C "closed" 5 ["self", "many"] (spMClosed C) := ⟨fM6, _, ⟨aM6, iM6, kM6⟩, bM6, ok_mclosed FM6 T D6 M4⟩
  have L0 : Def l.prog w K mg base "_law_right" 6 ["kept", "web", "many", "way"] (spRight K C) := ⟨fL0, _, PySem.W.mg_of X G aL0, kL0, bL0, ok_right FL0 T B M4 M5 M6 D6 D4⟩
  have L1 : Def l.prog w K mg base "_law_two_kept" 3 ["script", "names", "table", "pairs"] (spTwo K C) := ⟨fL1, _, PySem.W.mg_of X G aL1, kL1, bL1, ok_two FL1 T B CD M2 M1 M3 D7⟩
  have L2 : Def l.prog w K mg base "_law_anew" 7 ["kept", "names", "table", "at", "walk", "way"] (spAnew K C) := ⟨fL2, _, PySem.W.mg_of X G aL2, kL2, bL2, ok_anew FL2 T B M2 M3 L0⟩
  exact ok_law FZ T B D7 D9 D8 D10 L1 L0 D11 L2 M1
theorem walk {l : PySem.W.OpenLaw} {q : Program} {loose : List Str} {XP : (Str → Option Value) → Heap → Prop} {YP : World → Heap → Prop} {d : DefRec} {K : Params → PySem.W.Frag} (hn : l.most = some 63) (hdf : d.params.defaults = [])
    (hY : ∀ (w : World) (h : Heap), YP w h → (K w.params).In h)
    (F : ∀ (w : World) (mg : Str → Option Value) (fa : Addr) (h : Heap), (K w.params).In h → h.Ns mainGlobals mg → mg d.name = some (.ref fa) →
      ∃ fd : FuncData, (∀ (s : Shared) (u : Value), BindsTo s fd ⟨[u], []⟩ [("script", u)]) ∧ ∀ base : Heap, (K w.params).In base → base.Ns mainGlobals mg → FnOk l.prog w (K w.params) mg base CX0 8 fa fd ["script"] (spLaw (K w.params))) :
    PySem.W.WalkO q loose XP YP l.row.toRowW d [] (fun f vs => PySem.call f vs) :=
  L2.walk_of (n := 63) (k := 8) (x := "script") (CX := fun _ => CX0) (sp := fun w => spLaw (K w.params)) hn (by decide) hdf ⟨rfl, by decide, by decide⟩ hY F (fun _ _ a ns hl _ hS => ⟨a, ns, rfl, hS, hl, fun _ => rfl⟩) fun _ _ _ _ _ z => z
end My
open PySem PySem.W PyProof.Rows
set_option maxRecDepth 100000 in
set_option maxHeartbeats 0 in
theorem PySem.Challenge.cw_webtones_k61_whole_kept_in_any_order_holds : PySem.Challenge.rw_webtones_k61_whole_kept_in_any_order.Holds := by
  w_on; o_law; k_head; (case hw => w_witness2)
  k_fill
  refine My.walk (l := PySem.Challenge.rw_webtones_k61_whole_kept_in_any_order) rfl rfl (fun w h Y => PySem.W.kIn_of Y) ?F
  case F =>
    intro w mg fa h KX G hmg
    refine' My.all_mk KX G hmg ?h_aC ?h_aD0 ?h_lD0 ?h_cD0 ?h_kD0 ?h_aD1 ?h_lD1 ?h_cD1 ?h_kD1 ?h_aD2 ?h_lD2 ?h_cD2 ?h_kD2 ?h_aD3 ?h_lD3 ?h_cD3 ?h_kD3 ?h_aD4 ?h_lD4 ?h_cD4 ?h_kD4 ?h_aD5 ?h_lD5 ?h_cD5 ?h_kD5 ?h_aD6 ?h_lD6 ?h_cD6 ?h_kD6 ?h_aD7 ?h_lD7 ?h_cD7 ?h_kD7 ?h_aD8 ?h_lD8 ?h_cD8 ?h_kD8 ?h_aD9 ?h_lD9 ?h_cD9 ?h_kD9 ?h_aD10 ?h_lD10 ?h_cD10 ?h_kD10 ?h_aD11 ?h_lD11 ?h_cD11 ?h_kD11 ?h_aI ?h_iI ?h_lI ?h_cI ?h_kI ?h_aM0 ?h_iM0 ?h_lM0 ?h_cM0 ?h_kM0 ?h_aM1 ?h_iM1 ?h_lM1 ?h_cM1 ?h_kM1 ?h_aM2 ?h_iM2 ?h_lM2 ?h_cM2 ?h_kM2 ?h_aM3 ?h_iM3 ?h_lM3 ?h_cM3 ?h_kM3 ?h_aM4 ?h_iM4 ?h_lM4 ?h_cM4 ?h_kM4 ?h_aM5 ?h_iM5 ?h_lM5 ?h_cM5 ?h_kM5 ?h_aM6 ?h_iM6 ?h_lM6 ?h_cM6 ?h_kM6 ?h_aL0 ?h_lL0 ?h_cL0 ?h_kL0 ?h_aL1 ?h_lL1 ?h_cL1 ?h_kL1 ?h_aL2 ?h_lL2 ?h_cL2 ?h_kL2 ?h_aZ ?h_lZ ?h_cZ ?h_kZ ?h_pg ?h_hd ?h_po ?h_sa ?h_mk ?h_kc ?h_nN ?h_nR ?h_z_range ?h_z_len ?h_z_sum ?h_z_zip ?h_z_tuple ?h_z_list ?h_z_int ?h_z_max ?h_z_min ?h_z_enumerate
    (case h_aC => k_is)
    (case h_aD0 => k_is)
    (case h_lD0 => k_is)
    (case h_cD0 => k_is)
    (case h_kD0 => k_is)
    (case h_aD1 => k_is)
    (case h_lD1 => k_is)
    (case h_cD1 => k_is)
    (case h_kD1 => k_is)
    (case h_aD2 => k_is)
    (case h_lD2 => k_is)
    (case h_cD2 => k_is)
    (case h_kD2 => k_is)
    (case h_aD3 => k_is)
    (case h_lD3 => k_is)
    (case h_cD3 => k_is)
    (case h_kD3 => k_is)
    (case h_aD4 => k_is)
    (case h_lD4 => k_is)
    (case h_cD4 => k_is)
    (case h_kD4 => k_is)
    (case h_aD5 => k_is)
    (case h_lD5 => k_is)
    (case h_cD5 => k_is)
    (case h_kD5 => k_is)
    (case h_aD6 => k_is)
    (case h_lD6 => k_is)
    (case h_cD6 => k_is)
    (case h_kD6 => k_is)
    (case h_aD7 => k_is)
    (case h_lD7 => k_is)
    (case h_cD7 => k_is)
    (case h_kD7 => k_is)
    (case h_aD8 => k_is)
    (case h_lD8 => k_is)
    (case h_cD8 => k_is)
    (case h_kD8 => k_is)
    (case h_aD9 => k_is)
    (case h_lD9 => k_is)
    (case h_cD9 => k_is)
    (case h_kD9 => k_is)
    (case h_aD10 => k_is)
    (case h_lD10 => k_is)
    (case h_cD10 => k_is)
    (case h_kD10 => k_is)
    (case h_aD11 => k_is)
    (case h_lD11 => k_is)
    (case h_cD11 => k_is)
    (case h_kD11 => k_is)
    (case h_aI => k_is)
    (case h_iI => k_is)
    (case h_lI => k_is)
    (case h_cI => k_is)
    (case h_kI => k_is)
    (case h_aM0 => k_is)
    (case h_iM0 => k_is)
    (case h_lM0 => k_is)
    (case h_cM0 => k_is)
    (case h_kM0 => k_is)
    (case h_aM1 => k_is)
    (case h_iM1 => k_is)
    (case h_lM1 => k_is)
    (case h_cM1 => k_is)
    (case h_kM1 => k_is)
    (case h_aM2 => k_is)
    (case h_iM2 => k_is)
    (case h_lM2 => k_is)
    (case h_cM2 => k_is)
    (case h_kM2 => k_is)
    (case h_aM3 => k_is)
    (case h_iM3 => k_is)
    (case h_lM3 => k_is)
    (case h_cM3 => k_is)
    (case h_kM3 => k_is)
    (case h_aM4 => k_is)
    (case h_iM4 => k_is)
    (case h_lM4 => k_is)
    (case h_cM4 => k_is)
    (case h_kM4 => k_is)
    (case h_aM5 => k_is)
    (case h_iM5 => k_is)
    (case h_lM5 => k_is)
    (case h_cM5 => k_is)
    (case h_kM5 => k_is)
    (case h_aM6 => k_is)
    (case h_iM6 => k_is)
    (case h_lM6 => k_is)
    (case h_cM6 => k_is)
    (case h_kM6 => k_is)
    (case h_aL0 => k_is)
    (case h_lL0 => k_is)
    (case h_cL0 => k_is)
    (case h_kL0 => k_is)
    (case h_aL1 => k_is)
    (case h_lL1 => k_is)
    (case h_cL1 => k_is)
    (case h_kL1 => k_is)
    (case h_aL2 => k_is)
    (case h_lL2 => k_is)
    (case h_cL2 => k_is)
    (case h_kL2 => k_is)
    (case h_aZ => k_is)
    (case h_lZ => k_is)
    (case h_cZ => k_is)
    (case h_kZ => k_is)
    (case h_pg => k_is)
    (case h_hd => k_is)
    (case h_po => k_is)
    (case h_sa => k_is)
    (case h_mk => k_is)
    (case h_kc => k_is)
    (case h_nN => k_is)
    (case h_nR => k_is)
    (case h_z_range => k_is)
    (case h_z_len => k_is)
    (case h_z_sum => k_is)
    (case h_z_zip => k_is)
    (case h_z_tuple => k_is)
    (case h_z_list => k_is)
    (case h_z_int => k_is)
    (case h_z_max => k_is)
    (case h_z_min => k_is)
    (case h_z_enumerate => k_is)
#print axioms PySem.Challenge.cw_webtones_k61_whole_kept_in_any_order_holds
